import PyProof.Rows.All
import Wide.All
import OpenK.AllK
import Wide.FinOn
import HandS.ForMost
import HandS.Walk
import HandS.ExcOwn
import HandS.WordsExc
import HandS.Lambda
import HandS.HotCalls
import HandS.ExcField
import HandS.ExcIs
import HandS.ExcInit
import HandS.TryOnly
import KE.KExcIs
import KE.KIsAll
import HandS.EndTab
import HandS.TupLen
import HandS.DictTup
import KE.DataEq
import KE.DataFind
import KE.DataIsa
import KE.DataCmp
import KE.SortData
import HandS.Flow
import HandS.TupAny
import HandS.TupMul
import HandS.Style
import HandS.Wide
import HandS.Codes
import KE.DataAny
import KE.DataMinMax
import KE.DatumIndex
import HandS.Strs
import KE.KTupSum
import KE.GoesNew
import HandS.Small
import PyProof.FitsInt
import HandS.SortKw
import PyProof.TupleOfSeq
import HandS.Conv
import KE.DatumOrd
import HandS.More
import HandS.RaiseMore
import KE.KDictPairs
import HandS.Exc
import KE.SortKeyHeap
import KE.KItemsList
import HandS.WideBits
import PyProof.ExcBaseAll.ValueError
import PyProof.OldK
import PySem.Challenge.RW_bentstones_k27_refusals_of_fills
set_option Elab.async false
set_option autoImplicit false
set_option linter.all false
set_option maxRecDepth 100000
set_option maxHeartbeats 4000000
namespace PV
open PySem PySem.Spec PyProof.Rows L2
section
/-! ## results, values, the store -/
/-- the tuples that the module's top has written, with those within -/
class Wtp where
  W : List PyData
inductive Wv where
  | d (x : PyData)
  | r (i : Nat)
  /-- the exception that is handled -/
  | x (a : Addr) (c : Str) (d : Option (Addr × List (Str × PyData)))
inductive Ob where
  | lst (xs : List PyData)
  | dct (kvs : List (PyData × PyData))
  /-- a dict whose keys are tuples -/
  | dtt (kvs : List (PyData × PyData))
  /-- a dict that is pinned: nobody writes it any more -/
  | lkd (es : List (PyData × PyData))
  /-- a list that is pinned -/
  | lkl (xs : List PyData)
abbrev Sto := List Ob
abbrev En := List (Option Wv)
structure Xc where
  name : Str
  fs : List (Str × PyData)
inductive Rs (α : Type) where
  | ok (a : α) (st : Sto)
  | ex (e : Xc) (st : Sto)
  | no
namespace Rs
variable {α β : Type}
def bind (x : Rs α) (f : α → Sto → Rs β) : Rs β := match x with
  | .ok a st => f a st
  | .ex e st => .ex e st
  | .no => .no
/-- what holds at the end -/
def post (x : Rs α) (Q : α → Sto → Prop) (W : Xc → Sto → Prop) : Prop := match x with
  | .ok a st => Q a st
  | .ex e st => W e st
  | .no => False
@[simp] theorem bind_ok (a : α) (st : Sto) (f : α → Sto → Rs β) : (Rs.ok a st).bind f = f a st := rfl
@[simp] theorem bind_ex (e : Xc) (st : Sto) (f : α → Sto → Rs β) : (Rs.ex e st : Rs α).bind f = .ex e st := rfl
@[simp] theorem bind_no (f : α → Sto → Rs β) : (Rs.no : Rs α).bind f = .no := rfl
@[simp] theorem post_ok (a : α) (st : Sto) (Q : α → Sto → Prop) (W : Xc → Sto → Prop) : (Rs.ok a st).post Q W = Q a st := rfl
@[simp] theorem post_ex (e : Xc) (st : Sto) (Q : α → Sto → Prop) (W : Xc → Sto → Prop) : (Rs.ex e st : Rs α).post Q W = W e st := rfl
@[simp] theorem post_no (Q : α → Sto → Prop) (W : Xc → Sto → Prop) : (Rs.no : Rs α).post Q W = False := rfl
theorem post_bind (x : Rs α) (f : α → Sto → Rs β) (Q : β → Sto → Prop) (W : Xc → Sto → Prop) : (x.bind f).post Q W = x.post (fun a st => (f a st).post Q W) W := by cases x <;> rfl
theorem post_mono {x : Rs α} {Q Q' : α → Sto → Prop} {W W' : Xc → Sto → Prop} (h : x.post Q W) (hQ : ∀ a st, Q a st → Q' a st) (hW : ∀ e st, W e st → W' e st) : x.post Q' W' := by
  cases x with
  | ok a st => exact hQ a st h
  | ex e st => exact hW e st h
  | no => exact h
end Rs
/-- a value as data, as it is now -/
def look (st : Sto) : Wv → Option PyData
  | .d x => some x
  | .r i => match st[i]? with
    | some (.lst xs) => some (.list xs)
    | some (.dct kvs) => some (.dict kvs)
    | some (.dtt kvs) => some (.dict kvs)
    | some (.lkd kvs) => some (.dict kvs)
    | some (.lkl xs) => some (.list xs)
    | none => none
  | .x _ _ _ => none
@[simp] theorem look_d (st : Sto) (x : PyData) : look st (.d x) = some x := rfl
/-! ## data as it stands in the heap -/
abbrev Frg := PySem.W.Frag
def WrL (K : Frg) (a : Addr) (xs : List V) : Prop := ∃ (vs : Array Value) (k : Nat), K.lookup a = some { cls := .type "list", data := .seq vs k } ∧ vs.size ≤ sizeLine ∧ Vals xs vs.toList
def LsAt (K : Frg) (H : Hp) (Z : Addr → Prop) (a : Addr) (xs : List V) : Prop := (H a = some (.lst xs) ∧ Z a) ∨ (∃ o, H a = some (.frz o (.lst xs))) ∨ WrL K a xs
theorem LsAt.sq {K : Frg} {H : Hp} {Z : Addr → Prop} {a : Addr} {xs : List V} (h : LsAt K H Z a xs) : SqL K H a xs := by
  rcases h with ⟨h, _⟩ | ⟨o, h⟩ | h
  · exact .inl (.inl h)
  · exact .inl (.inr ⟨o, h⟩)
  · obtain ⟨vs, k, h1, h2, h3⟩ := h
    exact .inr ⟨_, vs, k, h1, rfl, rfl, rfl, h2, h3⟩
/-- a list, whoever holds it -/
abbrev LsX (K : Frg) (H : Hp) (a : Addr) (xs : List V) : Prop := LsAt K H (fun _ => True) a xs
theorem LsAt.x {K : Frg} {H : Hp} {Z : Addr → Prop} {a : Addr} {xs : List V} (h : LsAt K H Z a xs) : LsX K H a xs := by
  rcases h with ⟨h, _⟩ | h | h
  · exact .inl ⟨h, trivial⟩
  · exact .inr (.inl h)
  · exact .inr (.inr h)
theorem Inv.lsx {X : Cx} {pins : List (Addr × Obj)} {σ : L2.St} {H : Hp} {s : Shared} {Z : Addr → Prop} {a : Addr} {xs : List V} (I : Inv X pins σ H s) (h : LsAt X.K H Z a xs) :
    ∃ (its : List Value) (n : Nat), Vals xs its ∧ s.heap.get? a = some { cls := .type "list", data := .seq its.toArray n } ∧ xs.length ≤ sizeLine ∧ its.length = xs.length := by
  rcases h with ⟨h, _⟩ | ⟨o, h⟩ | ⟨vs, k, h1, h2, h3⟩
  · obtain ⟨z, its, n, r, e⟩ := I.hok a _ h
    exact ⟨its, n, r, e, z, r.length.symm⟩
  · obtain ⟨_, z, its, n, r, e⟩ := I.hok a _ h
    exact ⟨its, n, r, e, z, r.length.symm⟩
  · have e := h3.length
    exact ⟨vs.toList, k, h3, I.kIn a _ h1, by simp only [Array.length_toList] at e; omega, e.symm⟩
def keyD : PyData → Option Key
  | .int i => some (.inl i)
  | .str x => some (.inr x)
  | _ => none
def keysD : List PyData → Option (List Key)
  | [] => some []
  | d :: r => match keyD d, keysD r with
    | some k, some ks => some (k :: ks)
    | _, _ => none
def tkD : PyData → Option (List Key)
  | .tuple xs => keysD xs
  | _ => none
variable [Wtp]
/-- a tuple of its own, or one that the top has written -/
def TpAt (K : Frg) (H : Hp) (a : Addr) (xs : List V) (ds : List PyData) : Prop := H a = some (.tup xs) ∨ (SqT K H a xs ∧ PyData.tuple ds ∈ Wtp.W)
theorem TpAt.sq {K : Frg} {H : Hp} {a : Addr} {xs : List V} {ds : List PyData} (h : TpAt K H a xs ds) : SqT K H a xs := by
  rcases h with h | h
  · exact .inl (.inl h)
  · exact h.1
mutual
inductive Rp (K : Frg) (H : Hp) (Z : Addr → Prop) : V → PyData → Prop
  | non : Rp K H Z .non .none
  | bl (b : Bool) : Rp K H Z (.bl b) (.bool b)
  | int (i : Int) : Rp K H Z (.int i) (.int i)
  | str (x : Str) : Rp K H Z (.str x) (.str x)
  | lst {a : Addr} {xs : List V} {ds : List PyData} : LsAt K H Z a xs → RpA K H Z xs ds → Rp K H Z (.ref a) (.list ds)
  | tup {a : Addr} {xs : List V} {ds : List PyData} : TpAt K H a xs ds → RpA K H Z xs ds → Rp K H Z (.ref a) (.tuple ds)
  | dic {a : Addr} {o : Obj} {kvs : List (Key × V)} {es : List (PyData × PyData)} : H a = some (.frz o (.dK kvs)) → RpK K H Z kvs es → Rp K H Z (.ref a) (.dict es)
  | dit {a : Addr} {o : Obj} {kvs : List (List Key × V)} {es : List (PyData × PyData)} : H a = some (.frz o (.dT kvs)) → RpT K H Z kvs es → Rp K H Z (.ref a) (.dict es)
inductive RpA (K : Frg) (H : Hp) (Z : Addr → Prop) : List V → List PyData → Prop
  | nil : RpA K H Z [] []
  | cons {v : V} {vs : List V} {d : PyData} {ds : List PyData} : Rp K H Z v d → RpA K H Z vs ds → RpA K H Z (v :: vs) (d :: ds)
inductive RpK (K : Frg) (H : Hp) (Z : Addr → Prop) : List (Key × V) → List (PyData × PyData) → Prop
  | nil : RpK K H Z [] []
  | cons {k : Key} {v : V} {kvs : List (Key × V)} {c d : PyData} {es : List (PyData × PyData)} : keyD c = some k → Rp K H Z v d → RpK K H Z kvs es → RpK K H Z ((k, v) :: kvs) ((c, d) :: es)
inductive RpT (K : Frg) (H : Hp) (Z : Addr → Prop) : List (List Key × V) → List (PyData × PyData) → Prop
  | nil : RpT K H Z [] []
  | cons {k : List Key} {v : V} {kvs : List (List Key × V)} {c d : PyData} {es : List (PyData × PyData)} : tkD c = some k → Rp K H Z v d → RpT K H Z kvs es → RpT K H Z ((k, v) :: kvs) ((c, d) :: es)
end
/-- no table of code objects -/
def NT (o : HO) : Prop := ∀ ps, o ≠ .tbl ps
theorem nt_lst {xs : List V} : NT (.lst xs) := fun _ z => nomatch z
theorem nt_dK {xs : List (Key × V)} : NT (.dK xs) := fun _ z => nomatch z
theorem nt_dT {xs : List (List Key × V)} : NT (.dT xs) := fun _ z => nomatch z
/-- something stands there, and no table -/
def Nn (H : Hp) (a : Addr) : Prop := ∃ o, H a = some o ∧ NT o
theorem Nn.ne {H : Hp} {a : Addr} (h : Nn H a) : H a ≠ none := by obtain ⟨o, e, _⟩ := h; rw [e]; exact fun z => nomatch z
theorem nn_no {H : Hp} {a : Addr} (h : H a = none) : ¬ Nn H a := fun q => q.ne h
/-- a list -/
def LsO (o : HO) : Prop := ∃ xs, o = .lst xs
theorem LsO.nt {o : HO} (h : LsO o) : NT o := by obtain ⟨xs, rfl⟩ := h; exact nt_lst
/-- what data lean on is kept -/
structure Kp (K : Frg) (H : Hp) (Z : Addr → Prop) (H' : Hp) (Z' : Addr → Prop) : Prop where
  tup : ∀ a xs, H a = some (.tup xs) → H' a = some (.tup xs)
  frz : ∀ a o u, H a = some (.frz o u) → H' a = some (.frz o u)
  rest : ∀ a o, LsO o → H a = some o → Z a → H' a = some o ∧ Z' a
section
variable {K : Frg} {H H' H'' : Hp} {Z Z' Z'' : Addr → Prop}
theorem Kp.refl : Kp K H Z H Z := ⟨fun _ _ h => h, fun _ _ _ h => h, fun _ _ _ h z => ⟨h, z⟩⟩
theorem Kp.trans (p : Kp K H Z H' Z') (q : Kp K H' Z' H'' Z'') : Kp K H Z H'' Z'' :=
  ⟨fun a xs h => q.tup a xs (p.tup a xs h), fun a o u h => q.frz a o u (p.frz a o u h), fun a o nt h z => let ⟨h1, z1⟩ := p.rest a o nt h z; q.rest a o nt h1 z1⟩
theorem Kp.sqt (p : Kp K H Z H' Z') {a : Addr} {xs : List V} (h : SqT K H a xs) : SqT K H' a xs := by
  rcases h with (h | ⟨o, h⟩) | h
  · exact .inl (.inl (p.tup _ _ h))
  · exact .inl (.inr ⟨o, p.frz _ _ _ h⟩)
  · exact .inr h
theorem Kp.tp (p : Kp K H Z H' Z') {a : Addr} {xs : List V} {ds : List PyData} (h : TpAt K H a xs ds) : TpAt K H' a xs ds := by
  rcases h with h | h
  · exact .inl (p.tup _ _ h)
  · exact .inr ⟨p.sqt h.1, h.2⟩
theorem Kp.ls (p : Kp K H Z H' Z') {a : Addr} {xs : List V} (h : LsAt K H Z a xs) : LsAt K H' Z' a xs := by
  rcases h with ⟨h, z⟩ | ⟨o, h⟩ | h
  · exact .inl (p.rest _ _ ⟨_, rfl⟩ h z)
  · exact .inr (.inl ⟨o, p.frz _ _ _ h⟩)
  · exact .inr (.inr h)
mutual
theorem Rp.kp (p : Kp K H Z H' Z') : ∀ (d : PyData) (v : V), Rp K H Z v d → Rp K H' Z' v d
  | .none, _, h => by cases h; exact .non
  | .bool b, _, h => by cases h; exact .bl b
  | .int i, _, h => by cases h; exact .int i
  | .str x, _, h => by cases h; exact .str x
  | .list ds, _, h => by cases h with | lst h1 h2 => exact .lst (p.ls h1) (RpA.kp p ds _ h2)
  | .tuple ds, _, h => by cases h with | tup h1 h2 => exact .tup (p.tp h1) (RpA.kp p ds _ h2)
  | .dict es, _, h => by
    cases h with
    | dic h1 h3 => exact .dic (p.frz _ _ _ h1) (RpK.kp p es _ h3)
    | dit h1 h3 => exact .dit (p.frz _ _ _ h1) (RpT.kp p es _ h3)
theorem RpA.kp (p : Kp K H Z H' Z') : ∀ (ds : List PyData) (vs : List V), RpA K H Z vs ds → RpA K H' Z' vs ds
  | [], _, h => by cases h; exact .nil
  | d :: ds, _, h => by cases h with | cons h1 h2 => exact .cons (Rp.kp p d _ h1) (RpA.kp p ds _ h2)
theorem RpK.kp (p : Kp K H Z H' Z') : ∀ (es : List (PyData × PyData)) (kvs : List (Key × V)), RpK K H Z kvs es → RpK K H' Z' kvs es
  | [], _, h => by cases h; exact .nil
  | (c, d) :: es, _, h => by cases h with | cons h0 h1 h2 => exact .cons h0 (Rp.kp p d _ h1) (RpK.kp p es _ h2)
theorem RpT.kp (p : Kp K H Z H' Z') : ∀ (es : List (PyData × PyData)) (kvs : List (List Key × V)), RpT K H Z kvs es → RpT K H' Z' kvs es
  | [], _, h => by cases h; exact .nil
  | (c, d) :: es, _, h => by cases h with | cons h0 h1 h2 => exact .cons h0 (Rp.kp p d _ h1) (RpT.kp p es _ h2)
end
theorem Rp.mv {v : V} {d : PyData} (h : Rp K H Z v d) (p : Kp K H Z H' Z') : Rp K H' Z' v d := Rp.kp p d v h
theorem RpA.mv {vs : List V} {ds : List PyData} (h : RpA K H Z vs ds) (p : Kp K H Z H' Z') : RpA K H' Z' vs ds := RpA.kp p ds vs h
theorem RpA.len : ∀ {vs : List V} {ds : List PyData}, RpA K H Z vs ds → vs.length = ds.length
  | [], [], _ => rfl
  | _ :: vs, _ :: ds, h => by cases h with | cons _ h => simp [RpA.len h]
  | [], _ :: _, h => by cases h
  | _ :: _, [], h => by cases h
theorem RpA.get : ∀ {vs : List V} {ds : List PyData} {i : Nat} {d : PyData}, RpA K H Z vs ds → ds[i]? = some d → ∃ v, vs[i]? = some v ∧ Rp K H Z v d
  | [], [], i, d, _, e => by simp at e
  | v :: vs, c :: ds, 0, d, h, e => by
    cases h with
    | cons h1 h2 =>
      simp at e
      subst e
      exact ⟨v, rfl, h1⟩
  | v :: vs, c :: ds, i + 1, d, h, e => by
    cases h with
    | cons h1 h2 =>
      obtain ⟨u, hu, r⟩ := RpA.get (i := i) h2 (by simpa using e)
      exact ⟨u, by simpa using hu, r⟩
  | [], _ :: _, _, _, h, _ => by cases h
  | _ :: _, [], _, _, h, _ => by cases h
theorem RpA.app : ∀ {vs ws : List V} {ds es : List PyData}, RpA K H Z vs ds → RpA K H Z ws es → RpA K H Z (vs ++ ws) (ds ++ es)
  | [], _, [], _, _, h => h
  | _ :: _, _, _ :: _, _, .cons h1 h2, h => .cons h1 (RpA.app h2 h)
theorem RpA.drop : ∀ {vs : List V} {ds : List PyData} (n : Nat), RpA K H Z vs ds → RpA K H Z (vs.drop n) (ds.drop n)
  | _, _, 0, h => h
  | [], [], _ + 1, h => h
  | _ :: _, _ :: _, n + 1, .cons _ h => RpA.drop n h
theorem RpA.take : ∀ {vs : List V} {ds : List PyData} (n : Nat), RpA K H Z vs ds → RpA K H Z (vs.take n) (ds.take n)
  | _, _, 0, _ => .nil
  | [], [], _ + 1, _ => .nil
  | _ :: _, _ :: _, n + 1, .cons h1 h => .cons h1 (RpA.take n h)
theorem RpA.set {v : V} {d : PyData} (r : Rp K H Z v d) : ∀ {vs : List V} {ds : List PyData} (n : Nat), RpA K H Z vs ds → RpA K H Z (vs.set n v) (ds.set n d)
  | [], [], _, h => h
  | _ :: _, _ :: _, 0, .cons _ h => .cons r h
  | _ :: _, _ :: _, n + 1, .cons h1 h => .cons h1 (RpA.set r n h)
end
/-! ## the real heap reads as the data -/
section
variable {X : Cx} {pins : List (Addr × Obj)} {σ : L2.St} {H : Hp} {s : Shared} {Z : Addr → Prop}
/-- the dict of the modules stands in its place -/
def SysM (h : Heap) : Prop := ∃ (o : Obj) (es : Array DictEntry) (ep : Nat), h.get? sysModules = some o ∧ o.data = .dict es ep
/-- no list, no tuple stands there -/
theorem SysM.seq {h : Heap} {a : Addr} {o : Obj} {vs : Array Value} {n : Nat} (S : SysM h) (e : h.get? a = some o) (d : o.data = .seq vs n) : sysModules ≠ a := fun z => by
  obtain ⟨o', es, ep, e', d'⟩ := S
  rw [z, e] at e'
  cases e'
  rw [d] at d'
  cases d'
theorem SysM.up {h h' : Heap} (S : SysM h) (k : ∀ b o, h.get? b = some o → h'.get? b = some o) : SysM h' := by
  obtain ⟨o, es, ep, e, d⟩ := S
  exact ⟨o, es, ep, k _ _ e, d⟩
theorem off_cons {a : Addr} {as : List Addr} (h : sysModules ≠ a) (h' : sysModules ∉ as) : sysModules ∉ a :: as := fun z => by
  rcases List.mem_cons.mp z with z | z
  · exact h z
  · exact h' z
theorem off_app {as bs : List Addr} (h : sysModules ∉ as) (h' : sysModules ∉ bs) : sysModules ∉ as ++ bs := fun z => by
  rcases List.mem_append.mp z with z | z
  · exact h z
  · exact h' z
theorem off_nil : sysModules ∉ ([] : List Addr) := List.not_mem_nil
theorem keyD_rel {h : Heap} {d : PyData} {k : Key} {u : Value} (e : keyD d = some k) (r : RelV (kV k) u) : Reads h u d [] := by
  cases d with
  | int i => cases e; obtain ⟨t, rfl⟩ := r; exact .int i t
  | str x => cases e; obtain ⟨t, rfl⟩ := r; exact .str x t
  | _ => cases e
theorem keysD_reads {h : Heap} : ∀ {ds : List PyData} {ks : List Key} {us : List Value}, keysD ds = some ks → Vals (ks.map kV) us → ReadsAll h us ds []
  | [], ks, us, e, r => by
    cases e
    cases r
    exact .nil
  | d :: ds, ks, us, e, r => by
    unfold keysD at e
    split at e
    · rename_i k ks' e1 e2
      cases e
      cases r with
      | cons r1 r2 => exact .cons (as := []) (bs := []) (keyD_rel (h := h) e1 r1) (keysD_reads (h := h) e2 r2)
    · cases e
theorem tkD_reads (I : Inv X pins σ H s) {c : PyData} {k : List Key} {b : Addr} (e : tkD c = some k) (hb : H b = some (.tup (k.map kV))) : ∃ as, Reads s.heap (.ref b) c as ∧ (SysM s.heap → sysModules ∉ as) := by
  cases c with
  | tuple ds =>
    obtain ⟨its, rv, ⟨o, ho, hc, n, hd⟩, _⟩ := I.tuple (.inl (.inl hb))
    exact ⟨_, .tuple ho hc hd (keysD_reads (h := s.heap) (show keysD ds = some k from e) rv), fun _ => off_nil⟩
  | _ => cases e
theorem keyD_reads {h : Heap} {c : PyData} {k : Key} {u : Value} (e : keyD c = some k) (hk : keyIs k u = true) : Reads h u c [] := by
  cases c with
  | int i =>
    cases e
    rcases keyIs_shape hk with ⟨j, t, e1, rfl⟩ | ⟨x, t, e1, rfl⟩
    · cases e1; exact .int _ _
    · cases e1
  | str x =>
    cases e
    rcases keyIs_shape hk with ⟨j, t, e1, rfl⟩ | ⟨x, t, e1, rfl⟩
    · cases e1
    · cases e1; exact .str _ _
  | _ => cases e
mutual
/-- what is read lies beside the modules' dict -/
theorem Rp.readsM (I : Inv X pins σ H s) : ∀ (d : PyData) (v : V) (u : Value), Rp X.K H Z v d → RelV v u → ∃ as, Reads s.heap u d as ∧ (SysM s.heap → sysModules ∉ as)
  | .none, _, _, h, r => by cases h; cases r; exact ⟨_, .none, fun _ => off_nil⟩
  | .bool b, _, _, h, r => by cases h; cases r; exact ⟨_, .bool b, fun _ => off_nil⟩
  | .int i, _, _, h, r => by cases h; obtain ⟨t, rfl⟩ := r; exact ⟨_, .int i t, fun _ => off_nil⟩
  | .str x, _, _, h, r => by cases h; obtain ⟨t, rfl⟩ := r; exact ⟨_, .str x t, fun _ => off_nil⟩
  | .list ds, _, _, h, r => by
    cases h with
    | lst hs ha =>
      cases r
      obtain ⟨its, rv, ⟨o, n, ho, hc, _, hd⟩, _⟩ := I.list hs.sq
      obtain ⟨as, hr, g⟩ := RpA.readsM I ds _ its ha rv
      exact ⟨_, .list ho hc hd hr, fun S => off_cons (S.seq ho hd) (g S)⟩
  | .tuple ds, _, _, h, r => by
    cases h with
    | tup hs ha =>
      cases r
      obtain ⟨its, rv, ⟨o, ho, hc, n, hd⟩, _⟩ := I.tuple hs.sq
      obtain ⟨as, hr, g⟩ := RpA.readsM I ds _ its ha rv
      exact ⟨_, .tuple ho hc hd hr, g⟩
  | .dict es, _, _, h, r => by
    cases h with
    | dic h1 h3 =>
      cases r
      obtain ⟨_, _, hm, vs, kv, o, ents, ep, ho, hc, hd, _, he, _⟩ := (show ObjOk X.prog X.w H s.heap _ (.frz _ (.dK _)) from I.hok _ _ h1)
      obtain ⟨as, bs, r1, r2, g1, g2⟩ := RpK.readsM I es _ vs ents.toList h3 kv he
      exact ⟨_, .dict ho hc.1 hd r1 r2, fun S => off_app (off_cons (fun z => by subst z; cases hm) (g1 S)) (g2 S)⟩
    | dit h1 h3 =>
      cases r
      obtain ⟨_, _, hm, xs, kt, o, ents, ep, ho, hc, hd, he, _⟩ := (show ObjOk X.prog X.w H s.heap _ (.frz _ (.dT _)) from I.hok _ _ h1)
      obtain ⟨as, bs, r1, r2, g1, g2⟩ := RpT.readsM I es _ xs h3 kt
      rw [← he] at r1 r2
      exact ⟨_, .dict ho hc.1 hd r1 r2, fun S => off_app (off_cons (fun z => by subst z; cases hm) (g1 S)) (g2 S)⟩
theorem RpA.readsM (I : Inv X pins σ H s) : ∀ (ds : List PyData) (vs : List V) (us : List Value), RpA X.K H Z vs ds → Vals vs us → ∃ as, ReadsAll s.heap us ds as ∧ (SysM s.heap → sysModules ∉ as)
  | [], _, _, h, r => by cases h; cases r; exact ⟨_, .nil, fun _ => off_nil⟩
  | d :: ds, _, _, h, r => by
    cases h with
    | cons h1 h2 =>
      cases r with
      | cons r1 r2 =>
        obtain ⟨as, q1, g1⟩ := Rp.readsM I d _ _ h1 r1
        obtain ⟨bs, q2, g2⟩ := RpA.readsM I ds _ _ h2 r2
        exact ⟨_, .cons q1 q2, fun S => off_app (g1 S) (g2 S)⟩
theorem RpK.readsM (I : Inv X pins σ H s) : ∀ (es : List (PyData × PyData)) (kvs : List (Key × V)) (vs : List (Key × Value)) (ents : List DictEntry), RpK X.K H Z kvs es → KV kvs vs →
    Pairs (mixKind X.prog X.w) ents vs → ∃ as bs, ReadsAll s.heap (ents.map (·.key)) (es.map (·.1)) as ∧ ReadsAll s.heap (ents.map (·.val)) (es.map (·.2)) bs ∧ (SysM s.heap → sysModules ∉ as) ∧ (SysM s.heap → sysModules ∉ bs)
  | [], _, _, _, h, r, p => by cases h; cases r; cases p; exact ⟨_, _, .nil, .nil, fun _ => off_nil, fun _ => off_nil⟩
  | (c, d) :: es, _, _, _, h, r, p => by
    cases h with
    | cons h0 h1 h2 =>
      cases r with
      | cons r1 r2 =>
        cases p with
        | cons p1 p2 p3 =>
          obtain ⟨as, bs, q1, q2, g1, g2⟩ := RpK.readsM I es _ _ _ h2 r2 p3
          obtain ⟨cs, q3, g3⟩ := Rp.readsM I d _ _ h1 r1.2
          have q4 := keyD_reads (h := s.heap) (c := c) (h0.trans (congrArg some r1.1)) p1
          exact ⟨_, _, .cons q4 q1, by rw [List.map_cons, List.map_cons, p2]; exact .cons q3 q2, fun S => off_app off_nil (g1 S), fun S => off_app (g3 S) (g2 S)⟩
theorem RpT.readsM (I : Inv X pins σ H s) : ∀ (es : List (PyData × PyData)) (kvs : List (List Key × V)) (xs : List (List Key × Addr × Value)), RpT X.K H Z kvs es → KT H kvs xs →
    ∃ as bs, ReadsAll s.heap ((xs.map (entryOfKey (tupleKind (mixKind X.prog X.w)))).map (·.key)) (es.map (·.1)) as ∧ ReadsAll s.heap ((xs.map (entryOfKey (tupleKind (mixKind X.prog X.w)))).map (·.val)) (es.map (·.2)) bs ∧ (SysM s.heap → sysModules ∉ as) ∧ (SysM s.heap → sysModules ∉ bs)
  | [], _, _, h, r => by cases h; cases r; exact ⟨_, _, .nil, .nil, fun _ => off_nil, fun _ => off_nil⟩
  | (c, d) :: es, _, _, h, r => by
    cases h with
    | cons h0 h1 h2 =>
      cases r with
      | cons r1 r2 =>
        obtain ⟨as, bs, q1, q2, g1, g2⟩ := RpT.readsM I es _ _ h2 r2
        obtain ⟨cs, q3, g3⟩ := Rp.readsM I d _ _ h1 r1.2.2
        obtain ⟨ds, q4, g4⟩ := tkD_reads I h0 r1.2.1
        exact ⟨_, _, .cons q4 q1, .cons q3 q2, fun S => off_app (g4 S) (g1 S), fun S => off_app (g3 S) (g2 S)⟩
end
theorem RpA.reads (I : Inv X pins σ H s) (ds : List PyData) (vs : List V) (us : List Value) (h : RpA X.K H Z vs ds) (r : Vals vs us) : ∃ as, ReadsAll s.heap us ds as := let ⟨as, q, _⟩ := RpA.readsM I ds vs us h r; ⟨as, q⟩
end
end
section
variable [Wtp]
/-! ## the store in the heap -/
structure Mp where
  ix : Nat → Addr
  F : Addr → Prop
/-- none of the store's objects, and none that is being made -/
def Off (m : Mp) (n : Nat) (a : Addr) : Prop := (∀ i, i < n → m.ix i ≠ a) ∧ ¬ m.F a
/-- an exception's own dict -/
def XdAt (K : Frg) (H : Hp) (m : Mp) (n : Nat) (dd : Addr) (es : List (Str × PyData)) : Prop := ∃ fs : List (Str × V), H dd = some (.xd fs) ∧ fs.map (·.1) = es.map (·.1) ∧ RpA K H (Off m n) (fs.map (·.2)) (es.map (·.2)) ∧ Off m n dd
def RW (K : Frg) (H : Hp) (m : Mp) (n : Nat) (v : V) : Wv → Prop
  | .d x => Rp K H (Off m n) v x
  | .r i => i < n ∧ v = .ref (m.ix i)
  | .x a _ d => v = .ref a ∧ ∀ p, d = some p → XdAt K H m n p.1 p.2
inductive RWs (K : Frg) (H : Hp) (m : Mp) (n : Nat) : List V → List Wv → Prop
  | nil : RWs K H m n [] []
  | cons {v : V} {vs : List V} {w : Wv} {ws : List Wv} : RW K H m n v w → RWs K H m n vs ws → RWs K H m n (v :: vs) (w :: ws)
/-- a pinned list -/
def FzL (K : Frg) (H : Hp) (Z : Addr → Prop) (a : Addr) (xs : List PyData) : Prop := ∃ o vs, H a = some (.frz o (.lst vs)) ∧ RpA K H Z vs xs
theorem FzL.mv {K : Frg} {H H' : Hp} {Z Z' : Addr → Prop} {a : Addr} {xs : List PyData} (h : FzL K H Z a xs) (p : Kp K H Z H' Z') : FzL K H' Z' a xs := let ⟨o, vs, h1, h2⟩ := h; ⟨o, vs, p.frz _ _ _ h1, h2.mv p⟩
theorem FzL.rp {K : Frg} {H : Hp} {Z : Addr → Prop} {a : Addr} {xs : List PyData} (h : FzL K H Z a xs) : Rp K H Z (.ref a) (.list xs) := let ⟨_, _, h1, h2⟩ := h; .lst (.inr (.inl ⟨_, h1⟩)) h2
def ObAt (K : Frg) (H : Hp) (m : Mp) (n : Nat) (a : Addr) : Ob → Prop
  | .lst xs => ∃ vs, H a = some (.lst vs) ∧ RpA K H (Off m n) vs xs
  | .dct kvs => ∃ ks, H a = some (.dK ks) ∧ RpK K H (Off m n) ks kvs
  | .dtt kvs => ∃ ks, H a = some (.dT ks) ∧ RpT K H (Off m n) ks kvs
  | .lkd kvs => Rp K H (Off m n) (.ref a) (.dict kvs)
  | .lkl xs => FzL K H (Off m n) a xs
/-- the tables of code objects that the law's own defs make lambdas with -/
class Tbl where
  T : List (Addr × Str)
structure Sim [Tbl] (K : Frg) (H : Hp) (m : Mp) (st : Sto) : Prop where
  ob : ∀ (i : Nat) o, st[i]? = some o → ObAt K H m st.length (m.ix i) o
  inj : ∀ i j, i < st.length → j < st.length → m.ix i = m.ix j → i = j
  ff : ∀ a, m.F a → Nn H a
  fi : ∀ i, i < st.length → ¬ m.F (m.ix i)
  tb : LamX.Tabs Tbl.T H
variable [Tbl]
structure Fol (m : Mp) (n : Nat) (H : Hp) (m' : Mp) (n' : Nat) (H' : Hp) : Prop where
  tup : ∀ a xs, H a = some (.tup xs) → H' a = some (.tup xs)
  frz : ∀ a o u, H a = some (.frz o u) → H' a = some (.frz o u)
  rest : ∀ a o, NT o → H a = some o → (∀ i, i < n → m.ix i ≠ a) → H' a = some o
  old : ∀ i, i < n → m'.ix i = m.ix i
  new : ∀ i, n ≤ i → i < n' → ¬ Nn H (m'.ix i)
  le : n ≤ n'
  dom : ∀ a, Nn H a → Nn H' a
  eF : ∀ a, Nn H a → (m'.F a ↔ m.F a)
structure EnvR (K : Frg) (H : Hp) (m : Mp) (n : Nat) (env : En) (σ : L2.St) : Prop where
  len : env.length = σ.length
  at' : ∀ (i : Nat) w, env[i]? = some (some w) → ∃ v, σ[i]? = some (some v) ∧ RW K H m n v w
section
variable {K : Frg} {H H' H'' : Hp} {m m' m'' : Mp} {n n' n'' : Nat}
theorem ObAt.there {a : Addr} {o : Ob} (h : ObAt K H m n a o) : Nn H a := by
  cases o with
  | lst xs => obtain ⟨vs, e, _⟩ := h; exact ⟨_, e, nt_lst⟩
  | dct kvs => obtain ⟨vs, e, _⟩ := h; exact ⟨_, e, nt_dK⟩
  | dtt kvs => obtain ⟨vs, e, _⟩ := h; exact ⟨_, e, nt_dT⟩
  | lkd kvs =>
    cases (show Rp K H (Off m n) (.ref a) (.dict kvs) from h) with
    | dic h1 _ => exact ⟨_, h1, fun _ z => nomatch z⟩
    | dit h1 _ => exact ⟨_, h1, fun _ z => nomatch z⟩
  | lkl xs => obtain ⟨o, vs, h1, _⟩ := h; exact ⟨_, h1, fun _ z => nomatch z⟩
theorem Sim.there {st : Sto} (S : Sim K H m st) {i : Nat} (hi : i < st.length) : Nn H (m.ix i) := (S.ob i st[i] (List.getElem?_eq_getElem hi)).there
theorem Sim.fresh {st : Sto} (S : Sim K H m st) {a : Addr} (h : H a = none) : Off m st.length a := ⟨fun i hi e => nn_no h (e ▸ S.there hi), fun z => nn_no h (S.ff a z)⟩
theorem Fol.refl : Fol m n H m n H := ⟨fun _ _ h => h, fun _ _ _ h => h, fun _ _ _ h _ => h, fun _ _ => rfl, fun i a b => absurd b (by omega), Nat.le_refl _, fun _ h => h, fun _ _ => Iff.rfl⟩
theorem Fol.off1 (f : Fol m n H m' n' H') {a : Addr} (z : ∀ i, i < n → m.ix i ≠ a) (h : Nn H a) : ∀ i, i < n' → m'.ix i ≠ a := fun i hi e => by
  by_cases q : i < n
  · exact z i q ((f.old i q).symm.trans e)
  · exact f.new i (by omega) hi (by rw [e]; exact h)
theorem Fol.off (f : Fol m n H m' n' H') {a : Addr} (z : Off m n a) (h : Nn H a) : Off m' n' a := ⟨f.off1 z.1 h, fun q => z.2 ((f.eF a h).mp q)⟩
theorem Fol.kp (f : Fol m n H m' n' H') : Kp K H (Off m n) H' (Off m' n') :=
  ⟨f.tup, f.frz, fun a o nt h z => ⟨f.rest a o nt.nt h z.1, f.off z ⟨o, h, nt.nt⟩⟩⟩
theorem Fol.trans (f : Fol m n H m' n' H') (g : Fol m' n' H' m'' n'' H'') : Fol m n H m'' n'' H'' where
  tup a xs h := g.tup a xs (f.tup a xs h)
  frz a o u h := g.frz a o u (f.frz a o u h)
  rest a o nt h z := g.rest a o nt (f.rest a o nt h z) (f.off1 z ⟨o, h, nt⟩)
  old i hi := (g.old i (Nat.lt_of_lt_of_le hi f.le)).trans (f.old i hi)
  new i h1 h2 := by
    by_cases q : i < n'
    · rw [g.old i q]; exact f.new i h1 q
    · exact fun z => g.new i (by omega) h2 (f.dom _ z)
  le := Nat.le_trans f.le g.le
  dom a h := g.dom a (f.dom a h)
  eF a h := (g.eF a (f.dom a h)).trans (f.eF a h)
theorem domOf (h : ∀ a o, H a = some o → H' a = some o) : ∀ a, Nn H a → Nn H' a := fun a ⟨o, e, nt⟩ => ⟨o, h _ _ e, nt⟩
theorem Fol.same (h : ∀ a o, H a = some o → H' a = some o) : Fol m n H m n H' :=
  ⟨fun _ _ q => h _ _ q, fun _ _ _ q => h _ _ q, fun _ _ _ q _ => h _ _ q, fun _ _ => rfl, fun i a b => absurd b (by omega), Nat.le_refl _, domOf h, fun _ _ => Iff.rfl⟩
theorem XdAt.mv {dd : Addr} {es : List (Str × PyData)} (h : XdAt K H m n dd es) (f : Fol m n H m' n' H') : XdAt K H' m' n' dd es := by
  obtain ⟨fs, h1, h2, h3, h4⟩ := h
  have nt : NT (.xd fs) := fun _ z => nomatch z
  exact ⟨fs, f.rest dd _ nt h1 h4.1, h2, h3.mv f.kp, f.off h4 ⟨_, h1, nt⟩⟩
theorem RW.mv {v : V} {w : Wv} (h : RW K H m n v w) (f : Fol m n H m' n' H') : RW K H' m' n' v w := by
  cases w with
  | d x => exact Rp.mv h f.kp
  | r i => exact ⟨Nat.lt_of_lt_of_le h.1 f.le, by rw [f.old i h.1]; exact h.2⟩
  | x a c d => exact ⟨h.1, fun p e => (h.2 p e).mv f⟩
theorem RWs.mv : ∀ {vs : List V} {ws : List Wv}, RWs K H m n vs ws → Fol m n H m' n' H' → RWs K H' m' n' vs ws
  | _, _, .nil, _ => .nil
  | _, _, .cons h1 h2, f => .cons (h1.mv f) (RWs.mv h2 f)
theorem RWs.len : ∀ {vs : List V} {ws : List Wv}, RWs K H m n vs ws → vs.length = ws.length
  | _, _, .nil => rfl
  | _, _, .cons _ h => by simp [RWs.len h]
theorem EnvR.mv {env : En} {σ : L2.St} (h : EnvR K H m n env σ) (f : Fol m n H m' n' H') : EnvR K H' m' n' env σ :=
  ⟨h.len, fun i w e => let ⟨v, h1, h2⟩ := h.at' i w e; ⟨v, h1, h2.mv f⟩⟩
theorem EnvR.set {env : En} {σ : L2.St} {v : V} {w : Wv} (h : EnvR K H m n env σ) (i : Nat) (r : RW K H m n v w) : EnvR K H m n (env.set i (some w)) (σ.set i (some v)) := by
  refine ⟨by simp [h.len], fun j u e => ?_⟩
  by_cases q : i = j
  · subst q
    by_cases l : i < env.length
    · rw [List.getElem?_set_self l] at e
      cases e
      exact ⟨v, List.getElem?_set_self (by rw [← h.len]; exact l), r⟩
    · rw [List.getElem?_eq_none (by simpa using l)] at e; cases e
  · rw [List.getElem?_set_ne q] at e
    obtain ⟨x, h1, h2⟩ := h.at' j u e
    exact ⟨x, by rw [List.getElem?_set_ne q]; exact h1, h2⟩
theorem ObAt.mv {a : Addr} {o : Ob} (h : ObAt K H m n a o) (f : Fol m n H m' n' H') (e : ∀ u, H a = some u → H' a = some u) : ObAt K H' m' n' a o := by
  cases o with
  | lst xs => obtain ⟨vs, h1, h2⟩ := h; exact ⟨vs, e _ h1, h2.mv f.kp⟩
  | dct kvs => obtain ⟨vs, h1, h2⟩ := h; exact ⟨vs, e _ h1, RpK.kp f.kp _ _ h2⟩
  | dtt kvs => obtain ⟨vs, h1, h2⟩ := h; exact ⟨vs, e _ h1, RpT.kp f.kp _ _ h2⟩
  | lkd es => exact Rp.mv h f.kp
  | lkl xs => exact FzL.mv h f.kp
/-- the store in a heap that has grown -/
theorem Sim.grow {st : Sto} (S : Sim K H m st) (h : ∀ a o, H a = some o → H' a = some o) : Sim K H' m st :=
  ⟨fun i o e => (S.ob i o e).mv (.same h) fun u => h _ u, S.inj, fun a z => (Fol.same (m := m) (n := 0) h).dom a (S.ff a z), S.fi, S.tb.ext h⟩
theorem grow_upd {p : Addr} {o : HO} (h : H p = none) : ∀ a u, H a = some u → upd H p o a = some u := fun a u e => by
  rw [upd_ne (ne_of_none e h)]; exact e
end
/-! ## an exception in the heap -/
structure ExR (K : Frg) (mg : Str → Option Value) (H : Hp) (m : Mp) (n : Nat) (e : Xc) (c : Value) (d : Option Addr) : Prop where
  cls : ∃ C, mg e.name = some (.ref C) ∧ c = .ref C
  fld : (e.fs = [] ∧ d = none) ∨ ∃ dd, d = some dd ∧ XdAt K H m n dd e.fs
/-! ## judgements -/
/-- what a value's end asks -/
def okE (X : Cx) (m : Mp) (n : Nat) (H : Hp) (Q : VK) : Wv → Sto → Prop := fun w st' => ∀ v H' m', Fol m n H m' st'.length H' → Sim X.K H' m' st' → RW X.K H' m' st'.length v w → Q v H'
def okX (X : Cx) (W : WX) (m : Mp) (n : Nat) (H : Hp) (σ : L2.St) : Xc → Sto → Prop := fun e st' => ∀ c d H' m', Fol m n H m' st'.length H' → Sim X.K H' m' st' → ExR X.K X.mg H' m' st'.length e c d → W c d σ H'
def tE (X : Cx) (W : WX) (c : En → Sto → Rs Wv) : TE := fun σ H Q => ∃ m env st, Sim X.K H m st ∧ EnvR X.K H m st.length env σ ∧ (c env st).post (okE X m st.length H Q) (okX X W m st.length H σ)
def tT (X : Cx) (W : WX) (c : En → Sto → Rs Bool) : TT := fun σ H Q => ∃ m env st, Sim X.K H m st ∧ EnvR X.K H m st.length env σ ∧ (c env st).post (fun b st' => ∀ H' m', Fol m st.length H m' st'.length H' → Sim X.K H' m' st' → Q b H') (okX X W m st.length H σ)
def tA (X : Cx) (W : WX) (c : En → Sto → Rs (List Wv)) : TA := fun σ H Q => ∃ m env st, Sim X.K H m st ∧ EnvR X.K H m st.length env σ ∧
  (c env st).post (fun ws st' => ∀ vs H' m', Fol m st.length H m' st'.length H' → Sim X.K H' m' st' → RWs X.K H' m' st'.length vs ws → Q vs H') (okX X W m st.length H σ)
structure DE (X : Cx) (e : Expr) (c : En → Sto → Rs Wv) : Prop where
  pe : ∀ W, Takes X W → PE X e (tE X W c)
structure DT (X : Cx) (e : Expr) (c : En → Sto → Rs Bool) : Prop where
  pt : ∀ W, Takes X W → PT X e (tT X W c)
structure DA (X : Cx) (es : List Expr) (c : En → Sto → Rs (List Wv)) : Prop where
  pa : ∀ W, Takes X W → PA X es (tA X W c)
/-- what a def's or a block's text stands in -/
structure Tb where
  N : List Str
  us : List Nat
  ls : List Nat
  ps : List Nat
  gs : List Str
  cs : List Str
  fn : Bool
  gd : Bool
  /-- the name of the lambdas that it makes -/
  lq : Option Str
/-- the module -/
structure Md where
  P : Program
  w : World
  K : Frg
  mg : Str → Option Value
  base : Heap
/-- the code object of a def that makes lambdas, and its table -/
structure LamC (mg : Str → Option Value) (base : Heap) (q : Str) (cd : Value) : Prop where
  at' : ∃ c P : Addr, cd = .ref c ∧ (P, q) ∈ Tbl.T ∧ (∀ p ∈ Tbl.T, p.1 = P → p.2 = q) ∧ LamX.TabB base mg c P
structure Cxt (M : Md) (X : Cx) (B : Tb) (k : Nat) : Prop where
  hP : X.prog = M.P
  hw : X.w = M.w
  hK : X.K = M.K
  mg : X.mg = M.mg
  hb : X.base = M.base
  hN : X.N = B.N
  nd : B.N.Nodup
  calm : X.calm = true
  kind : B.fn = true → X.env.scope.kind = .function
  room : Room k X.A
  gu : B.gd = true → X.A.guards = some []
  vis : ∀ i ∈ B.us, ∀ x, B.N[i]? = some x → Vis X.env.scope x
  loc : ∀ i ∈ B.ls, ∀ x, B.N[i]? = some x → Loc X.env.scope x ∧ (X.fn x = true ∨ X.env.scope.names.lookup x = some .local)
  pl : ∀ i ∈ B.ps, ∀ x, B.N[i]? = some x → X.env.scope.names.lookup x = some .local
  gl : ∀ (j : Nat) x, B.gs[j]? = some x → Gl X x
  cs : ∀ x ∈ B.cs, X.env.scope.names.lookup x = some .cell ∨ X.env.scope.names.lookup x = some .free
  po : B.fn = true → PassesOwn (model X.prog X.w) X.A X.env X.xe
  lam : ∀ q, B.lq = some q → X.env.qual ++ "<lambda>" = q ∧ LamC M.mg M.base q X.env.code
  fr : B.fn = true → X.stack = X.env :: X.outer ∧ X.env.frame = some X.env.locals
theorem Cxt.sm {M : Md} {X : Cx} {B : Tb} {k : Nat} (c : Cxt M X B k) (h : SysM M.base) : SysM X.base := by rw [c.hb]; exact h
theorem Cxt.roomH {M : Md} {X : Cx} {B : Tb} {k : Nat} (c : Cxt M X B k) : L2H.RoomH k X.A := L2H.roomH_of c.room
section
variable {M : Md} {X : Cx} {B : Tb} {k : Nat} {pins : List (Addr × Obj)} {σ : L2.St} {H : Hp} {s : Shared} {m : Mp} {env : En} {st : Sto} {W : WX}
/-- use a value's judgement -/
theorem DE.go {e : Expr} {c : En → Sto → Rs Wv} (h : DE X e c) (tk : Takes X W) (I : Inv X pins σ H s) (S : Sim X.K H m st) (R : EnvR X.K H m st.length env σ) {Q : Value → Shared → Prop}
    (hp : (c env st).post (fun w st' => ∀ v H' m' u s', Inv X pins σ H' s' → RelV v u → Fol m st.length H m' st'.length H' → Sim X.K H' m' st' → RW X.K H' m' st'.length v w → Q u s') (okX X W m st.length H σ)) :
    wpAny (model X.prog X.w) X.A (eval e X.env) Q X.xe s := by
  refine thn ((h.pe W tk).run pins s σ H (fun v H' => ∀ u s', Inv X pins σ H' s' → RelV v u → Q u s') I ⟨m, env, st, S, R, Rs.post_mono hp (fun w st' q v H' m' f S' r u s' I' rv => q v H' m' u s' I' rv f S' r) fun _ _ q => q⟩) fun u s' q => ?_
  obtain ⟨v, H', I', rv, q⟩ := q
  exact q u s' I' rv
theorem DT.go {e : Expr} {c : En → Sto → Rs Bool} (h : DT X e c) (tk : Takes X W) (I : Inv X pins σ H s) (S : Sim X.K H m st) (R : EnvR X.K H m st.length env σ) {Q : Bool → Shared → Prop}
    (hp : (c env st).post (fun b st' => ∀ H' m' s', Inv X pins σ H' s' → Fol m st.length H m' st'.length H' → Sim X.K H' m' st' → Q b s') (okX X W m st.length H σ)) :
    wpAny (model X.prog X.w) X.A (isTrue e X.env (eval e X.env)) Q X.xe s := by
  refine thn ((h.pt W tk).run pins s σ H (fun b H' => ∀ s', Inv X pins σ H' s' → Q b s') I ⟨m, env, st, S, R, Rs.post_mono hp (fun b st' q H' m' f S' s' I' => q H' m' s' I' f S') fun _ _ q => q⟩) fun b s' q => ?_
  obtain ⟨H', I', q⟩ := q
  exact q s' I'
theorem DA.go {es : List Expr} {c : En → Sto → Rs (List Wv)} (h : DA X es c) (tk : Takes X W) (I : Inv X pins σ H s) (S : Sim X.K H m st) (R : EnvR X.K H m st.length env σ) {Q : List Value → Shared → Prop} (pos : Pos)
    (hp : (c env st).post (fun ws st' => ∀ vs H' m' us s', Inv X pins σ H' s' → Vals vs us → Fol m st.length H m' st'.length H' → Sim X.K H' m' st' → RWs X.K H' m' st'.length vs ws → Q us s') (okX X W m st.length H σ)) :
    wpAny (model X.prog X.w) X.A (spliced (backTo pos (starEach es X.env))) Q X.xe s := by
  refine thn ((h.pa W tk).run pos pins s σ H (fun vs H' => ∀ us s', Inv X pins σ H' s' → Vals vs us → Q us s') I ⟨m, env, st, S, R, Rs.post_mono hp (fun w st' q vs H' m' f S' r us s' I' rv => q vs H' m' us s' I' rv f S' r) fun _ _ q => q⟩) fun u s' q => ?_
  obtain ⟨v, H', I', rv, q⟩ := q
  exact q u s' I' rv
/-- state a value's judgement -/
theorem DE.mk' {e : Expr} {c : En → Sto → Rs Wv} (h : ∀ (W : WX) (pins : List (Addr × Obj)) (σ : L2.St) (H : Hp) (s : Shared) (m : Mp) (env : En) (st : Sto) (Q : Value → Shared → Prop), Takes X W → Inv X pins σ H s → Sim X.K H m st → EnvR X.K H m st.length env σ →
    (c env st).post (fun w st' => ∀ v H' m' u s', Inv X pins σ H' s' → RelV v u → Fol m st.length H m' st'.length H' → Sim X.K H' m' st' → RW X.K H' m' st'.length v w → Q u s') (okX X W m st.length H σ) →
    wpAny (model X.prog X.w) X.A (eval e X.env) Q X.xe s) : DE X e c := by
  refine ⟨fun W tk => ⟨fun pins s σ H Q I ⟨m, env, st, S, R, hp⟩ => h W pins σ H s m env st _ tk I S R (Rs.post_mono hp (fun w st' q v H' m' u s' I' rv f S' r => ?_) fun _ _ q => q)⟩⟩
  exact ⟨v, H', I', rv, q v H' m' f S' r⟩
theorem DT.mk' {e : Expr} {c : En → Sto → Rs Bool} (h : ∀ (W : WX) (pins : List (Addr × Obj)) (σ : L2.St) (H : Hp) (s : Shared) (m : Mp) (env : En) (st : Sto) (Q : Bool → Shared → Prop), Takes X W → Inv X pins σ H s → Sim X.K H m st → EnvR X.K H m st.length env σ →
    (c env st).post (fun b st' => ∀ H' m' s', Inv X pins σ H' s' → Fol m st.length H m' st'.length H' → Sim X.K H' m' st' → Q b s') (okX X W m st.length H σ) →
    wpAny (model X.prog X.w) X.A (isTrue e X.env (eval e X.env)) Q X.xe s) : DT X e c := by
  refine ⟨fun W tk => ⟨fun pins s σ H Q I ⟨m, env, st, S, R, hp⟩ => h W pins σ H s m env st _ tk I S R (Rs.post_mono hp (fun b st' q H' m' s' I' f S' => ?_) fun _ _ q => q)⟩⟩
  exact ⟨H', I', q H' m' f S'⟩
theorem DA.mk' {es : List Expr} {c : En → Sto → Rs (List Wv)} (h : ∀ (W : WX) (pins : List (Addr × Obj)) (σ : L2.St) (H : Hp) (s : Shared) (m : Mp) (env : En) (st : Sto) (Q : List Value → Shared → Prop) (pos : Pos), Takes X W → Inv X pins σ H s → Sim X.K H m st → EnvR X.K H m st.length env σ →
    (c env st).post (fun ws st' => ∀ vs H' m' us s', Inv X pins σ H' s' → Vals vs us → Fol m st.length H m' st'.length H' → Sim X.K H' m' st' → RWs X.K H' m' st'.length vs ws → Q us s') (okX X W m st.length H σ) →
    wpAny (model X.prog X.w) X.A (spliced (backTo pos (starEach es X.env))) Q X.xe s) : DA X es c := by
  refine ⟨fun W tk => ⟨fun pos pins s σ H Q I ⟨m, env, st, S, R, hp⟩ => h W pins σ H s m env st _ pos tk I S R (Rs.post_mono hp (fun w st' q v H' m' u s' I' rv f S' r => ?_) fun _ _ q => q)⟩⟩
  exact ⟨v, H', I', rv, q v H' m' f S' r⟩
/-- what follows a first part asks of the rest -/
theorem okX.tr {m1 : Mp} {n n1 : Nat} {H1 : Hp} {e : Xc} {st' : Sto} (f : Fol m n H m1 n1 H1) (h : okX X W m n H σ e st') : okX X W m1 n1 H1 σ e st' := fun c d H' m' f' S' r => h c d H' m' (f.trans f') S' r
/-! ### names, constants -/
def eVar (i : Nat) : En → Sto → Rs Wv := fun env st => match env[i]? with
  | some (some w) => .ok w st
  | _ => .no
theorem de_var (c : Cxt M X B k) (i : Nat) {x : Str} {pos : Pos} (h : B.N[i]? = some x) (hu : i ∈ B.us) (hd : (x == ("__debug__" : Str)) = false := by decide) (hc : (x == ("__classdict__" : Str)) = false := by decide) : DE X (.Name x pos) (eVar i) := by
  refine ⟨fun W tk => ⟨fun pins s σ H Q I ⟨m, env, st, S, R, hp⟩ => (pe_var (i := i) (by rw [c.hN]; exact h) (c.vis i hu x h) hd hc).run pins s σ H Q I ?_⟩⟩
  unfold eVar at hp
  split at hp
  · rename_i w e
    obtain ⟨v, hv, r⟩ := R.at' i w e
    exact ⟨v, hv, hp v H m .refl S r⟩
  · exact hp.elim
def eK (x : PyData) : En → Sto → Rs Wv := fun _ st => .ok (.d x) st
theorem de_pure {e : Expr} {v : V} {x : PyData} (h : PE X e (tC v)) (r : ∀ K H Z, Rp K H Z v x) : DE X e (eK x) :=
  ⟨fun W tk => ⟨fun pins s σ H Q I ⟨m, env, st, S, R, hp⟩ => h.run pins s σ H Q I (hp v H m .refl S (r _ _ _))⟩⟩
theorem de_int {i : Int} {j : Nat} {pos : Pos} : DE X (.Constant (.int i) j pos) (eK (.int i)) := de_pure pe_int fun _ _ _ => .int i
theorem de_bl {b : Bool} {j : Nat} {pos : Pos} : DE X (.Constant (.bool b) j pos) (eK (.bool b)) := de_pure pe_bl fun _ _ _ => .bl b
theorem de_non {j : Nat} {pos : Pos} : DE X (.Constant .none j pos) (eK .none) := de_pure pe_non fun _ _ _ => .non
theorem de_str {x : Str} {j : Nat} {pos : Pos} : DE X (.Constant (.str x) j pos) (eK (.str x)) := de_pure pe_str fun _ _ _ => .str x
/-- a constant of the module -/
theorem de_glob {x : Str} {pos : Pos} {v : V} {u : Value} {y : PyData} (c : Cxt M X B k) (j : Nat) (h : B.gs[j]? = some x) (hm : M.mg x = some u) (r : RelV v u) (ry : ∀ H Z, Rp M.K H Z v y) (hd : (x == ("__debug__" : Str)) = false := by decide) : DE X (.Name x pos) (eK y) :=
  ⟨fun W tk => ⟨fun pins s σ H Q I ⟨m, env, st, S, R, hp⟩ => (pe_glob (c.gl j x h) (by rw [c.mg]; exact hm) r hd).run pins s σ H Q I (hp v H m .refl S (by rw [c.hK]; exact ry _ _))⟩⟩
end
end
section
variable [Wtp] [Tbl]
/-! ## data at the top: a list of the store too -/
/-- a dict that is read -/
def DkT (K : Frg) (H : Hp) (Z : Addr → Prop) (a : Addr) (es : List (PyData × PyData)) : Prop := (∃ ks, Rd H a (.dK ks) ∧ RpK K H Z ks es) ∨ ∃ ks, Rd H a (.dT ks) ∧ RpT K H Z ks es
def RT (K : Frg) (H : Hp) (Z : Addr → Prop) (v : V) (d : PyData) : Prop :=
  Rp K H Z v d ∨ (∃ a vs ds, v = .ref a ∧ d = .list ds ∧ H a = some (.lst vs) ∧ RpA K H Z vs ds) ∨ ∃ a, ∃ (_ : Unit), ∃ es, v = .ref a ∧ d = .dict es ∧ DkT K H Z a es
inductive RTs (K : Frg) (H : Hp) (Z : Addr → Prop) : List V → List PyData → Prop
  | nil : RTs K H Z [] []
  | cons {v : V} {vs : List V} {d : PyData} {ds : List PyData} : RT K H Z v d → RTs K H Z vs ds → RTs K H Z (v :: vs) (d :: ds)
section
variable {K : Frg} {H : Hp} {Z : Addr → Prop} {m : Mp} {st : Sto} {v : V}
theorem look_rt {w : Wv} {d : PyData} (S : Sim K H m st) (r : RW K H m st.length v w) (e : look st w = some d) : RT K H (Off m st.length) v d := by
  cases w with
  | d x =>
    cases e
    exact .inl r
  | r i =>
    obtain ⟨hi, rfl⟩ := r
    simp only [look] at e
    cases q : st[i]? with
    | none => rw [q] at e; cases e
    | some o =>
      rw [q] at e
      have h := S.ob i o q
      cases o with
      | lst xs =>
        cases e
        obtain ⟨vs, h1, h2⟩ := h
        exact .inr (.inl ⟨_, vs, xs, rfl, rfl, h1, h2⟩)
      | dct kvs =>
        cases e
        obtain ⟨vs, h1, h2⟩ := h
        exact .inr (.inr ⟨_, (), kvs, rfl, rfl, .inl ⟨vs, .inl h1, h2⟩⟩)
      | dtt kvs =>
        cases e
        obtain ⟨vs, h1, h2⟩ := h
        exact .inr (.inr ⟨_, (), kvs, rfl, rfl, .inr ⟨vs, .inl h1, h2⟩⟩)
      | lkd kvs =>
        cases e
        exact .inl h
      | lkl xs =>
        cases e
        exact .inl (FzL.rp h)
  | x a c d => cases e
theorem RT.non (h : RT K H Z v .none) : v = .non := by
  rcases h with h | ⟨_, _, _, _, e, _⟩ | ⟨_, _, _, _, e, _⟩
  · cases h; rfl
  · cases e
  · cases e
theorem RT.int {i : Int} (h : RT K H Z v (.int i)) : v = .int i := by
  rcases h with h | ⟨_, _, _, _, e, _⟩ | ⟨_, _, _, _, e, _⟩
  · cases h; rfl
  · cases e
  · cases e
theorem RT.bl {b : Bool} (h : RT K H Z v (.bool b)) : v = .bl b := by
  rcases h with h | ⟨_, _, _, _, e, _⟩ | ⟨_, _, _, _, e, _⟩
  · cases h; rfl
  · cases e
  · cases e
theorem RT.str {x : Str} (h : RT K H Z v (.str x)) : v = .str x := by
  rcases h with h | ⟨_, _, _, _, e, _⟩ | ⟨_, _, _, _, e, _⟩
  · cases h; rfl
  · cases e
  · cases e
theorem RT.tupT {ds : List PyData} (h : RT K H Z v (.tuple ds)) : ∃ a vs, v = .ref a ∧ TpAt K H a vs ds ∧ RpA K H Z vs ds := by
  rcases h with h | ⟨_, _, _, _, e, _⟩ | ⟨_, _, _, _, e, _⟩
  · cases h with | tup h1 h2 => exact ⟨_, _, rfl, h1, h2⟩
  · cases e
  · cases e
theorem RT.tup {ds : List PyData} (h : RT K H Z v (.tuple ds)) : ∃ a vs, v = .ref a ∧ SqT K H a vs ∧ RpA K H Z vs ds := by
  rcases h with h | ⟨_, _, _, _, e, _⟩ | ⟨_, _, _, _, e, _⟩
  · cases h with | tup h1 h2 => exact ⟨_, _, rfl, h1.sq, h2⟩
  · cases e
  · cases e
theorem RT.lst {ds : List PyData} (h : RT K H Z v (.list ds)) : ∃ a vs, v = .ref a ∧ LsX K H a vs ∧ RpA K H Z vs ds := by
  rcases h with h | ⟨a, vs, xs, rfl, e, h1, h2⟩ | ⟨_, _, _, _, e, _⟩
  · cases h with | lst h1 h2 => exact ⟨_, _, rfl, h1.x, h2⟩
  · cases e; exact ⟨a, vs, rfl, .inl ⟨h1, trivial⟩, h2⟩
  · cases e
theorem RT.dic {es : List (PyData × PyData)} (h : RT K H Z v (.dict es)) : ∃ a, v = .ref a ∧ DkT K H Z a es := by
  rcases h with h | ⟨_, _, _, _, e, _⟩ | ⟨a, ks, xs, rfl, e, h1⟩
  · cases h with
    | dic h1 h2 => exact ⟨_, rfl, .inl ⟨_, .inr ⟨_, h1⟩, h2⟩⟩
    | dit h1 h2 => exact ⟨_, rfl, .inr ⟨_, .inr ⟨_, h1⟩, h2⟩⟩
  · cases e
  · cases e; exact ⟨a, rfl, h1⟩
end
section
variable {X : Cx} {pins : List (Addr × Obj)} {σ : L2.St} {H : Hp} {s : Shared} {Z : Addr → Prop}
theorem Inv.rtM (I : Inv X pins σ H s) {v : V} {u : Value} {d : PyData} (h : RT X.K H Z v d) (r : RelV v u) : ∃ as, Reads s.heap u d as ∧ (SysM s.heap → sysModules ∉ as) := by
  rcases h with h | ⟨a, vs, ds, rfl, rfl, h1, h2⟩ | ⟨a, ks, es, rfl, rfl, h1⟩
  · exact Rp.readsM I d v u h r
  · cases r
    obtain ⟨its, rv, ⟨o, n, ho, hc, _, hd⟩, _⟩ := I.list (.inl (.inl h1))
    obtain ⟨as, hr, g⟩ := RpA.readsM I ds _ its h2 rv
    exact ⟨_, .list ho hc hd hr, fun S => off_cons (S.seq ho hd) (g S)⟩
  · cases r
    rcases h1 with ⟨ks, h1, h2⟩ | ⟨ks, h1, h2⟩
    · obtain ⟨_, hm, vs, kv, o, ents, ep, ho, hc, hd, _, he, _⟩ := (show ObjOk X.prog X.w H s.heap _ (.dK _) from h1.ok I.hok)
      obtain ⟨as, bs, r1, r2, g1, g2⟩ := RpK.readsM I es _ vs ents.toList h2 kv he
      exact ⟨_, .dict ho hc.1 hd r1 r2, fun S => off_app (off_cons (fun z => by subst z; cases hm) (g1 S)) (g2 S)⟩
    · obtain ⟨_, hm, xs, kt, o, ents, ep, ho, hc, hd, he, _⟩ := (show ObjOk X.prog X.w H s.heap _ (.dT _) from h1.ok I.hok)
      obtain ⟨as, bs, r1, r2, g1, g2⟩ := RpT.readsM I es _ xs h2 kt
      rw [← he] at r1 r2
      exact ⟨_, .dict ho hc.1 hd r1 r2, fun S => off_app (off_cons (fun z => by subst z; cases hm) (g1 S)) (g2 S)⟩
theorem Inv.rt (I : Inv X pins σ H s) {v : V} {u : Value} {d : PyData} (h : RT X.K H Z v d) (r : RelV v u) : ∃ as, Reads s.heap u d as := let ⟨as, q, _⟩ := Inv.rtM I h r; ⟨as, q⟩
end
/-! ## operations on data -/
/-- what an operation's rule tells: its end, for whoever goes on -/
def rOut (K : Frg) (H : Hp) (Z : Addr → Prop) (r : PyData) (Q : VK) : Prop := ∀ z H', (∀ a o, H a = some o → H' a = some o) → Rp K H' Z z r → Q z H'
def rD (K : Frg) (f : PyData → PyData → Option PyData) : R2 := fun x y H Q => ∃ Z d e r, (∀ a, H a = none → Z a) ∧ RT K H Z x d ∧ RT K H Z y e ∧ f d e = some r ∧ rOut K H Z r Q
def rN (K : Frg) (f : List PyData → Option PyData) : List V → Hp → VK → Prop := fun vs H Q => ∃ Z ds r, (∀ a, H a = none → Z a) ∧ RTs K H Z vs ds ∧ f ds = some r ∧ rOut K H Z r Q
def rU1 (K : Frg) (f : PyData → Option PyData) : V → Hp → VK → Prop := fun x H Q => ∃ Z d r, (∀ a, H a = none → Z a) ∧ RT K H Z x d ∧ f d = some r ∧ rOut K H Z r Q
/-- the truth of data -/
def truD : PyData → Bool
  | .none => false
  | .bool b => b
  | .int i => i != 0
  | .str x => x.length != 0
  | .list xs => !xs.isEmpty
  | .tuple xs => !xs.isEmpty
  | .dict es => !es.isEmpty
def strOk : PyData → Bool
  | .str x => decide (x.length ≤ 1000000)
  | .dict _ => false
  | _ => true
theorem line_lim : 1000000 ≤ sizeLine := by rw [sizeLine_eq]; decide
def ret1 (r : Option PyData) (st : Sto) : Rs Wv := match r with
  | some x => .ok (.d x) st
  | none => .no
@[simp] theorem ret1_some (x : PyData) (st : Sto) : ret1 (some x) st = .ok (.d x) st := rfl
@[simp] theorem ret1_none (st : Sto) : ret1 none st = .no := rfl
def look1 (w : Wv) (st : Sto) (f : PyData → Rs Wv) : Rs Wv := match look st w with
  | some d => f d
  | none => .no
@[simp] theorem look1_d (x : PyData) (st : Sto) (f : PyData → Rs Wv) : look1 (.d x) st f = f x := rfl
def looks : List Wv → Sto → Option (List PyData)
  | [], _ => some []
  | w :: ws, st => match look st w, looks ws st with
    | some d, some ds => some (d :: ds)
    | _, _ => none
@[simp] theorem looks_nil (st : Sto) : looks [] st = some [] := rfl
@[simp] theorem looks_d (x : PyData) (ws : List Wv) (st : Sto) : looks (.d x :: ws) st = (looks ws st).map (x :: ·) := by
  simp only [looks, look_d]
  cases looks ws st <;> rfl
def eOp2 (f : PyData → PyData → Option PyData) (ca cb : En → Sto → Rs Wv) : En → Sto → Rs Wv := fun env st =>
  (ca env st).bind fun a st1 => (cb env st1).bind fun b st2 => look1 a st2 fun d => look1 b st2 fun e => ret1 (f d e) st2
def eOp1 (f : PyData → Option PyData) (ca : En → Sto → Rs Wv) : En → Sto → Rs Wv := fun env st => (ca env st).bind fun a st1 => look1 a st1 fun d => ret1 (f d) st1
def aNil : En → Sto → Rs (List Wv) := fun _ st => .ok [] st
def aCons (ca : En → Sto → Rs Wv) (cs : En → Sto → Rs (List Wv)) : En → Sto → Rs (List Wv) := fun env st => (ca env st).bind fun a st1 => (cs env st1).bind fun r st2 => .ok (a :: r) st2
def eOpN (f : List PyData → Option PyData) (cs : En → Sto → Rs (List Wv)) : En → Sto → Rs Wv := fun env st =>
  (cs env st).bind fun ws st1 => match looks ws st1 with
    | some ds => ret1 (f ds) st1
    | none => .no
/-- the truth of a value -/
def tru (w : Wv) (st : Sto) : Rs Bool := match look st w with
  | some d => if strOk d then .ok (truD d) st else .no
  | none => .no
@[simp] theorem tru_bool (b : Bool) (st : Sto) : tru (.d (.bool b)) st = .ok b st := rfl
def tTru (c : En → Sto → Rs Wv) : En → Sto → Rs Bool := fun env st => (c env st).bind tru
def tAnd2 (a b : En → Sto → Rs Bool) : En → Sto → Rs Bool := fun env st => (a env st).bind fun x st1 => if x then b env st1 else .ok false st1
def tOr2 (a b : En → Sto → Rs Bool) : En → Sto → Rs Bool := fun env st => (a env st).bind fun x st1 => if x then .ok true st1 else b env st1
def tNot1 (a : En → Sto → Rs Bool) : En → Sto → Rs Bool := fun env st => (a env st).bind fun x st1 => .ok (!x) st1
def eAnd2 (a b : En → Sto → Rs Wv) : En → Sto → Rs Wv := fun env st => (a env st).bind fun w st1 => (tru w st1).bind fun x st2 => if x then b env st2 else .ok w st2
def eOr2 (a b : En → Sto → Rs Wv) : En → Sto → Rs Wv := fun env st => (a env st).bind fun w st1 => (tru w st1).bind fun x st2 => if x then .ok w st2 else b env st2
def eNot1 (a : En → Sto → Rs Wv) : En → Sto → Rs Wv := fun env st => (a env st).bind fun w st1 => (tru w st1).bind fun x st2 => .ok (.d (.bool (!x))) st2
def eIf (t : En → Sto → Rs Bool) (a b : En → Sto → Rs Wv) : En → Sto → Rs Wv := fun env st => (t env st).bind fun x st1 => if x then a env st1 else b env st1
/-- a op b op' c -/
def eChain (f g : PyData → PyData → Option PyData) (ca cb cc : En → Sto → Rs Wv) : En → Sto → Rs Wv := fun env st =>
  (ca env st).bind fun a st1 => (cb env st1).bind fun b st2 => look1 a st2 fun d => look1 b st2 fun e => match f d e with
    | some (.bool true) => (cc env st2).bind fun c st3 => look1 b st3 fun e' => look1 c st3 fun y => ret1 (g e' y) st3
    | some (.bool false) => .ok (.d (.bool false)) st2
    | _ => .no
def allD : List Wv → Option (List PyData)
  | [] => some []
  | .d x :: ws => (allD ws).map (x :: ·)
  | .r _ :: _ => none
  | .x _ _ _ :: _ => none
@[simp] theorem allD_nil : allD [] = some [] := rfl
@[simp] theorem allD_cons (x : PyData) (ws : List Wv) : allD (.d x :: ws) = (allD ws).map (x :: ·) := rfl
def eTup (cs : En → Sto → Rs (List Wv)) : En → Sto → Rs Wv := fun env st => (cs env st).bind fun ws st1 => match allD ws with
  | some ds => if ds.length ≤ 1000000 then .ok (.d (.tuple ds)) st1 else .no
  | none => .no
def eLst (cs : En → Sto → Rs (List Wv)) : En → Sto → Rs Wv := fun env st => (cs env st).bind fun ws st1 => match allD ws with
  | some ds => if ds.length ≤ 1000000 then .ok (.d (.list ds)) st1 else .no
  | none => .no
/-- a new list of the store -/
def eNewL (cs : En → Sto → Rs (List Wv)) : En → Sto → Rs Wv := fun env st => (cs env st).bind fun ws st1 => match allD ws with
  | some ds => if ds.length ≤ 1000000 then .ok (.r st1.length) (st1 ++ [.lst ds]) else .no
  | none => .no
def eNewD : En → Sto → Rs Wv := fun _ st => .ok (.r st.length) (st ++ [.dct []])
/-- a new dict whose keys will be tuples -/
def eNewT : En → Sto → Rs Wv := fun _ st => .ok (.r st.length) (st ++ [.dtt []])
def eDic0 : En → Sto → Rs Wv := eK (.dict [])
section
variable {M : Md} {X : Cx} {B : Tb} {k : Nat} {pins : List (Addr × Obj)} {σ : L2.St} {H : Hp} {s : Shared} {m : Mp} {env : En} {st : Sto} {W : WX}
  {a b : Expr} {ca cb cc : En → Sto → Rs Wv} {pos : Pos}
theorem PE.imp {e : Expr} {t t' : TE} (h : PE X e t) (q : ∀ σ H Q, t' σ H Q → t σ H Q) : PE X e t' := ⟨fun pins s σ H Q I x => h.run pins s σ H Q I (q σ H Q x)⟩
theorem PT.imp {e : Expr} {t t' : TT} (h : PT X e t) (q : ∀ σ H Q, t' σ H Q → t σ H Q) : PT X e t' := ⟨fun pins s σ H Q I x => h.run pins s σ H Q I (q σ H Q x)⟩
theorem PW.imp {e : Expr} {t t' : TT} (h : PW X e t) (q : ∀ σ H Q, t' σ H Q → t σ H Q) : PW X e t' := ⟨fun wh pins s σ H Q I x => h.run wh pins s σ H Q I (q σ H Q x)⟩
theorem PA.imp {e : List Expr} {t t' : TA} (h : PA X e t) (q : ∀ σ H Q, t' σ H Q → t σ H Q) : PA X e t' := ⟨fun pos pins s σ H Q I x => h.run pos pins s σ H Q I (q σ H Q x)⟩
theorem look1_post {w : Wv} {f : PyData → Rs Wv} {Q : Wv → Sto → Prop} {R : Xc → Sto → Prop} (h : (look1 w st f).post Q R) : ∃ d, look st w = some d ∧ (f d).post Q R := by
  unfold look1 at h
  split at h
  · exact ⟨_, by assumption, h⟩
  · exact h.elim
theorem ret1_post {r : Option PyData} {Q : Wv → Sto → Prop} {R : Xc → Sto → Prop} (h : (ret1 r st).post Q R) : ∃ d, r = some d ∧ Q (.d d) st := by
  unfold ret1 at h
  split at h
  · exact ⟨_, rfl, h⟩
  · exact h.elim
/-- an operation's end goes on -/
theorem okE.out {m1 : Mp} {H1 : Hp} {st1 : Sto} {n : Nat} {r : PyData} {Q : VK} (f : Fol m n H m1 st1.length H1) (S : Sim X.K H1 m1 st1) (q : okE X m n H Q (.d r) st1) : rOut X.K H1 (Off m1 st1.length) r Q := fun z H' g h =>
  q z H' m1 (f.trans (.same g)) (S.grow g) h
/-- two parts, then what is asked of both -/
theorem te_two (f : PyData → PyData → Option PyData) {Q : VK} (h : tE X W (eOp2 f ca cb) σ H Q) : tOp (rD X.K f) (tE X W ca) (tE X W cb) σ H Q := by
  obtain ⟨m, env, st, S, R, hp⟩ := h
  unfold eOp2 at hp
  rw [Rs.post_bind] at hp
  refine ⟨m, env, st, S, R, Rs.post_mono hp (fun w st1 q v H1 m1 f1 S1 r1 => ?_) fun _ _ q => q⟩
  rw [Rs.post_bind] at q
  refine ⟨m1, env, st1, S1, R.mv f1, Rs.post_mono q (fun w2 st2 q v2 H2 m2 f2 S2 r2 => ?_) fun _ _ q => okX.tr f1 q⟩
  obtain ⟨d, e1, q⟩ := look1_post q
  obtain ⟨e, e2, q⟩ := look1_post q
  obtain ⟨r, e3, q⟩ := ret1_post q
  exact ⟨_, d, e, r, fun a => S2.fresh, look_rt S2 (r1.mv f2) e1, look_rt S2 r2 e2, e3, okE.out (f1.trans f2) S2 q⟩
theorem te_one (f : PyData → Option PyData) {Q : VK} (h : tE X W (eOp1 f ca) σ H Q) : tUn (rU1 X.K f) (tE X W ca) σ H Q := by
  obtain ⟨m, env, st, S, R, hp⟩ := h
  unfold eOp1 at hp
  rw [Rs.post_bind] at hp
  refine ⟨m, env, st, S, R, Rs.post_mono hp (fun w st1 q v H1 m1 f1 S1 r1 => ?_) fun _ _ q => q⟩
  obtain ⟨d, e1, q⟩ := look1_post q
  obtain ⟨r, e3, q⟩ := ret1_post q
  exact ⟨_, d, r, fun a => S1.fresh, look_rt S1 r1 e1, e3, okE.out f1 S1 q⟩
theorem looks_rt {vs : List V} {ws : List Wv} {ds : List PyData} (S : Sim X.K H m st) (r : RWs X.K H m st.length vs ws) (e : looks ws st = some ds) : RTs X.K H (Off m st.length) vs ds := by
  induction r generalizing ds with
  | nil => cases e; exact .nil
  | cons r1 r2 ih =>
    unfold looks at e
    split at e
    · cases e
      exact .cons (look_rt S r1 (by assumption)) (ih (by assumption))
    · cases e
theorem te_all (f : List PyData → Option PyData) {cs : En → Sto → Rs (List Wv)} {Q : VK} (h : tE X W (eOpN f cs) σ H Q) : tCB (rN X.K f) (tA X W cs) σ H Q := by
  obtain ⟨m, env, st, S, R, hp⟩ := h
  unfold eOpN at hp
  rw [Rs.post_bind] at hp
  refine ⟨m, env, st, S, R, Rs.post_mono hp (fun ws st1 q vs H1 m1 f1 S1 r1 => ?_) fun _ _ q => q⟩
  split at q
  · obtain ⟨r, e3, q⟩ := ret1_post q
    exact ⟨_, _, r, fun a => S1.fresh, looks_rt S1 r1 (by assumption), e3, okE.out f1 S1 q⟩
  · exact q.elim
/-! ### argument lists, operators -/
theorem da_nil : DA X [] aNil := ⟨fun W tk => ⟨fun pos pins s σ H Q I ⟨m, env, st, S, R, hp⟩ => pa_nil.run pos pins s σ H Q I (hp [] H m .refl S .nil)⟩⟩
theorem da_cons {e : Expr} {es : List Expr} {cs : En → Sto → Rs (List Wv)} (ha : DE X e ca) (hr : DA X es cs) (hs : starEach (e :: es) X.env = (false, eval e X.env) :: starEach es X.env := by rfl) : DA X (e :: es) (aCons ca cs) := by
  refine ⟨fun W tk => PA.imp (pa_cons (ha.pe W tk) (hr.pa W tk) hs) fun σ H Q ⟨m, env, st, S, R, hp⟩ => ?_⟩
  unfold aCons at hp
  rw [Rs.post_bind] at hp
  refine ⟨m, env, st, S, R, Rs.post_mono hp (fun w st1 q v H1 m1 f1 S1 r1 => ?_) fun _ _ q => q⟩
  rw [Rs.post_bind] at q
  refine ⟨m1, env, st1, S1, R.mv f1, Rs.post_mono q (fun ws st2 q vs H2 m2 f2 S2 r2 => ?_) fun _ _ q => okX.tr f1 q⟩
  exact q (v :: vs) H2 m2 (f1.trans f2) S2 (.cons (r1.mv f2) r2)
theorem de_bin {op : Operator} {f : PyData → PyData → Option PyData} (ho : OpR X (binaryOp op) (rD X.K f)) (ha : DE X a ca) (hb : DE X b cb) : DE X (.BinOp a op b pos) (eOp2 f ca cb) :=
  ⟨fun W tk => PE.imp (pe_op ho (ha.pe W tk) (hb.pe W tk)) fun σ H Q => te_two f⟩
theorem de_un {op : UnaryOp} {f : PyData → Option PyData} (ho : UnR X (unaryOp op) (rU1 X.K f)) (ha : DE X a ca) : DE X (.UnaryOp op a pos) (eOp1 f ca) :=
  ⟨fun W tk => PE.imp (pe_un ho (ha.pe W tk)) fun σ H Q => te_one f⟩
theorem de_cmp {op : CmpOp} {f : PyData → PyData → Option PyData} (ho : OpR X (compareOp op) (rD X.K f)) (ha : DE X a ca) (hb : DE X b cb) (hm : behindInMarks op b = false) : DE X (.Compare a [op] [b] pos) (eOp2 f ca cb) :=
  ⟨fun W tk => PE.imp (pe_cmpR ho (ha.pe W tk) (hb.pe W tk) hm) fun σ H Q => te_two f⟩
/-- tests of bools -/
def tBl (c : En → Sto → Rs Wv) : En → Sto → Rs Bool := fun env st => (c env st).bind fun w st1 => match w with
  | .d (.bool b) => .ok b st1
  | _ => .no
theorem tt_of {Q : Bool → Hp → Prop} {c : En → Sto → Rs Wv} (h : tT X W (tBl c) σ H Q) : tE X W c σ H fun x H' => ∃ k, x = .bl k ∧ Q k H' := by
  obtain ⟨m, env, st, S, R, hp⟩ := h
  unfold tBl at hp
  rw [Rs.post_bind] at hp
  refine ⟨m, env, st, S, R, Rs.post_mono hp (fun w st1 q v H1 m1 f1 S1 r1 => ?_) fun _ _ q => q⟩
  split at q
  · cases r1
    exact ⟨_, rfl, q H1 m1 f1 S1⟩
  · exact q.elim
theorem dt_cmp {op : CmpOp} {f : PyData → PyData → Option PyData} (ho : OpR X (compareOp op) (rD X.K f)) (ha : DE X a ca) (hb : DE X b cb) (hm : behindInMarks op b = false) : DT X (.Compare a [op] [b] pos) (tBl (eOp2 f ca cb)) :=
  ⟨fun W tk => PT.imp (pt_cmpR ho (ha.pe W tk) (hb.pe W tk) hm) fun σ H Q h => te_two f (tt_of h)⟩
theorem te_chain {f g : PyData → PyData → Option PyData} {Q : VK} (h : tE X W (eChain f g ca cb cc) σ H Q) : tChain (rD X.K f) (rD X.K g) (tE X W ca) (tE X W cb) (tE X W cc) σ H Q := by
  obtain ⟨m, env, st, S, R, hp⟩ := h
  unfold eChain at hp
  rw [Rs.post_bind] at hp
  refine ⟨m, env, st, S, R, Rs.post_mono hp (fun w st1 q v H1 m1 f1 S1 r1 => ?_) fun _ _ q => q⟩
  rw [Rs.post_bind] at q
  refine ⟨m1, env, st1, S1, R.mv f1, Rs.post_mono q (fun w2 st2 q v2 H2 m2 f2 S2 r2 => ?_) fun _ _ q => okX.tr f1 q⟩
  obtain ⟨d, e1, q⟩ := look1_post q
  obtain ⟨e, e2, q⟩ := look1_post q
  split at q
  · rename_i e3
    refine ⟨_, d, e, _, fun a => S2.fresh, look_rt S2 (r1.mv f2) e1, look_rt S2 r2 e2, e3, fun z H' g0 h => ?_⟩
    cases h
    refine ⟨true, rfl, ?_⟩
    rw [if_pos rfl]
    have g2 : Fol m2 st2.length H2 m2 st2.length H' := .same g0
    rw [Rs.post_bind] at q
    refine ⟨m2, env, st2, S2.grow g0, (R.mv f1).mv (f2.trans g2), Rs.post_mono q (fun w3 st3 q v3 H3 m3 f3 S3 r3 => ?_) fun _ _ q => okX.tr (f1.trans (f2.trans g2)) q⟩
    obtain ⟨e', e4, q⟩ := look1_post q
    obtain ⟨y, e5, q⟩ := look1_post q
    obtain ⟨r, e6, q⟩ := ret1_post q
    exact ⟨_, e', y, r, fun a => S3.fresh, look_rt S3 ((r2.mv g2).mv f3) e4, look_rt S3 r3 e5, e6, okE.out ((f1.trans (f2.trans g2)).trans f3) S3 q⟩
  · rename_i e3
    refine ⟨_, d, e, _, fun a => S2.fresh, look_rt S2 (r1.mv f2) e1, look_rt S2 r2 e2, e3, fun z H' g0 h => ?_⟩
    cases h
    refine ⟨false, rfl, ?_⟩
    rw [if_neg Bool.false_ne_true]
    exact q _ _ m2 ((f1.trans f2).trans (.same g0)) (S2.grow g0) (.bl false)
  · exact q.elim
theorem de_chain {op op' : CmpOp} {f g : PyData → PyData → Option PyData} {c : Expr} (ho : OpR X (compareOp op) (rD X.K f)) (ho' : OpR X (compareOp op') (rD X.K g)) (ha : DE X a ca) (hb : DE X b cb) (hc : DE X c cc)
    (hm : lastMarks [op, op'] [b, c] = false := by with_unfolding_all rfl) : DE X (.Compare a [op, op'] [b, c] pos) (eChain f g ca cb cc) :=
  ⟨fun W tk => PE.imp (pe_chain ho ho' (ha.pe W tk) (hb.pe W tk) (hc.pe W tk) hm) fun σ H Q => te_chain⟩
theorem dt_chain {op op' : CmpOp} {f g : PyData → PyData → Option PyData} {c : Expr} (ho : OpR X (compareOp op) (rD X.K f)) (ho' : OpR X (compareOp op') (rD X.K g)) (ha : DE X a ca) (hb : DE X b cb) (hc : DE X c cc)
    (hm : lastMarks [op, op'] [b, c] = false := by with_unfolding_all rfl) : DT X (.Compare a [op, op'] [b, c] pos) (tBl (eChain f g ca cb cc)) :=
  ⟨fun W tk => PT.imp (pt_chain ho ho' (ha.pe W tk) (hb.pe W tk) (hc.pe W tk) hm) fun σ H Q h => te_chain (tt_of h)⟩
/-! ### truth, and, or, not -/
theorem truV_of {v : V} {d : PyData} {Z : Addr → Prop} (r : RT X.K H Z v d) (h : strOk d = true) : TruV X.K v H (truD d) := by
  cases d with
  | none => rw [r.non]; rfl
  | bool b => rw [r.bl]; rfl
  | int i => rw [r.int]; rfl
  | str x =>
    rw [r.str]
    refine ⟨Nat.le_trans (of_decide_eq_true h) line_lim, ?_⟩
    show (x.length != 0) = ((x.length : Int) != 0)
    cases x.length <;> rfl
  | list xs =>
    obtain ⟨a, vs, rfl, h1, h2⟩ := r.lst
    refine .inl ⟨vs, h1.sq, ?_⟩
    cases h2 <;> rfl
  | tuple xs =>
    obtain ⟨a, vs, rfl, h1, h2⟩ := r.tup
    refine .inr (.inl ⟨vs, h1, ?_⟩)
    cases h2 <;> rfl
  | dict es => cases h
theorem tru_post {w : Wv} {Q : Bool → Sto → Prop} {R : Xc → Sto → Prop} (h : (tru w st).post Q R) : ∃ d, look st w = some d ∧ strOk d = true ∧ Q (truD d) st := by
  unfold tru at h
  split at h
  · split at h
    · exact ⟨_, by assumption, by assumption, h⟩
    · exact h.elim
  · exact h.elim
theorem dt_val (ha : DE X a ca) (he : ∀ whole, isTrue a X.env whole = (do let v ← whole; standAt a.pos; holding [v] (truthy v)) := by intro _; rfl) : DT X a (tTru ca) := by
  refine ⟨fun W tk => PT.imp (pt_truth (ha.pe W tk) he) fun σ H Q ⟨m, env, st, S, R, hp⟩ => ?_⟩
  unfold tTru at hp
  rw [Rs.post_bind] at hp
  refine ⟨m, env, st, S, R, Rs.post_mono hp (fun w st1 q v H1 m1 f1 S1 r1 => ?_) fun _ _ q => q⟩
  obtain ⟨d, e1, e2, q⟩ := tru_post q
  exact ⟨_, truV_of (look_rt S1 r1 e1) e2, q H1 m1 f1 S1⟩
/-- a test whatever its 'whole' is -/
structure DW (X : Cx) (e : Expr) (c : En → Sto → Rs Bool) : Prop where
  pw : ∀ W, Takes X W → PW X e (tT X W c)
theorem DW.dt {e : Expr} {c : En → Sto → Rs Bool} (h : DW X e c) : DT X e c := ⟨fun W tk => (h.pw W tk).pt⟩
variable {ta tb : En → Sto → Rs Bool} {rest : List Expr}
theorem dw_and1 (ha : DT X a ta) : DW X (.BoolOp .And [a] pos) ta := ⟨fun W tk => pw_and1 (ha.pt W tk)⟩
theorem dw_or1 (ha : DT X a ta) : DW X (.BoolOp .Or [a] pos) ta := ⟨fun W tk => pw_or1 (ha.pt W tk)⟩
theorem dw_and (ha : DT X a ta) (hb : DW X (.BoolOp .And (b :: rest) pos) tb) : DW X (.BoolOp .And (a :: b :: rest) pos) (tAnd2 ta tb) := by
  refine ⟨fun W tk => PW.imp (pw_and (ha.pt W tk) (hb.pw W tk)) fun σ H Q ⟨m, env, st, S, R, hp⟩ => ?_⟩
  unfold tAnd2 at hp
  rw [Rs.post_bind] at hp
  refine ⟨m, env, st, S, R, Rs.post_mono hp (fun x st1 q H1 m1 f1 S1 => ?_) fun _ _ q => q⟩
  cases x with
  | true => exact ⟨m1, env, st1, S1, R.mv f1, Rs.post_mono q (fun y st2 q H2 m2 f2 S2 => q H2 m2 (f1.trans f2) S2) fun _ _ q => okX.tr f1 q⟩
  | false => exact q H1 m1 f1 S1
theorem dw_or (ha : DT X a ta) (hb : DW X (.BoolOp .Or (b :: rest) pos) tb) : DW X (.BoolOp .Or (a :: b :: rest) pos) (tOr2 ta tb) := by
  refine ⟨fun W tk => PW.imp (pw_or (ha.pt W tk) (hb.pw W tk)) fun σ H Q ⟨m, env, st, S, R, hp⟩ => ?_⟩
  unfold tOr2 at hp
  rw [Rs.post_bind] at hp
  refine ⟨m, env, st, S, R, Rs.post_mono hp (fun x st1 q H1 m1 f1 S1 => ?_) fun _ _ q => q⟩
  cases x with
  | false => exact ⟨m1, env, st1, S1, R.mv f1, Rs.post_mono q (fun y st2 q H2 m2 f2 S2 => q H2 m2 (f1.trans f2) S2) fun _ _ q => okX.tr f1 q⟩
  | true => exact q H1 m1 f1 S1
theorem dt_not (ha : DT X a ta) : DT X (.UnaryOp .Not a pos) (tNot1 ta) := by
  refine ⟨fun W tk => PT.imp (pt_not (ha.pt W tk)) fun σ H Q ⟨m, env, st, S, R, hp⟩ => ?_⟩
  unfold tNot1 at hp
  rw [Rs.post_bind] at hp
  exact ⟨m, env, st, S, R, Rs.post_mono hp (fun x st1 q H1 m1 f1 S1 => q H1 m1 f1 S1) fun _ _ q => q⟩
/-- as values -/
theorem de_one {op : BoolOp} (ha : DE X a ca) : DE X (.BoolOp op [a] pos) ca := ⟨fun W tk => pe_one (ha.pe W tk)⟩
theorem de_and (ha : DE X a ca) (hb : DE X (.BoolOp .And (b :: rest) pos) cb) : DE X (.BoolOp .And (a :: b :: rest) pos) (eAnd2 ca cb) := by
  refine ⟨fun W tk => PE.imp (pe_andT (ha.pe W tk) (hb.pe W tk)) fun σ H Q ⟨m, env, st, S, R, hp⟩ => ?_⟩
  unfold eAnd2 at hp
  rw [Rs.post_bind] at hp
  refine ⟨m, env, st, S, R, Rs.post_mono hp (fun w st1 q v H1 m1 f1 S1 r1 => ?_) fun _ _ q => q⟩
  rw [Rs.post_bind] at q
  obtain ⟨d, e1, e2, q⟩ := tru_post q
  refine ⟨_, truV_of (look_rt S1 r1 e1) e2, ?_⟩
  cases q2 : truD d with
  | true =>
    rw [q2, if_pos rfl] at q
    exact ⟨m1, env, st1, S1, R.mv f1, Rs.post_mono q (fun y st2 q v2 H2 m2 f2 S2 r2 => q v2 H2 m2 (f1.trans f2) S2 r2) fun _ _ q => okX.tr f1 q⟩
  | false =>
    rw [q2, if_neg Bool.false_ne_true] at q
    exact q v H1 m1 f1 S1 r1
theorem de_not (ha : DE X a ca) : DE X (.UnaryOp .Not a pos) (eNot1 ca) := by
  refine ⟨fun W tk => PE.imp (pe_notT (ha.pe W tk)) fun σ H Q ⟨m, env, st, S, R, hp⟩ => ?_⟩
  unfold eNot1 at hp
  rw [Rs.post_bind] at hp
  refine ⟨m, env, st, S, R, Rs.post_mono hp (fun w st1 q v H1 m1 f1 S1 r1 => ?_) fun _ _ q => q⟩
  rw [Rs.post_bind] at q
  obtain ⟨d, e1, e2, q⟩ := tru_post q
  exact ⟨_, truV_of (look_rt S1 r1 e1) e2, q _ H1 m1 f1 S1 (.bl _)⟩
theorem de_if {c : Expr} (hc : DT X c ta) (ha : DE X a ca) (hb : DE X b cb) : DE X (.IfExp c a b pos) (eIf ta ca cb) := by
  refine ⟨fun W tk => PE.imp (pe_ifExp (hc.pt W tk) (ha.pe W tk) (hb.pe W tk)) fun σ H Q ⟨m, env, st, S, R, hp⟩ => ?_⟩
  unfold eIf at hp
  rw [Rs.post_bind] at hp
  refine ⟨m, env, st, S, R, Rs.post_mono hp (fun x st1 q H1 m1 f1 S1 => ?_) fun _ _ q => q⟩
  cases x with
  | true => exact ⟨m1, env, st1, S1, R.mv f1, Rs.post_mono q (fun y st2 q v2 H2 m2 f2 S2 r2 => q v2 H2 m2 (f1.trans f2) S2 r2) fun _ _ q => okX.tr f1 q⟩
  | false => exact ⟨m1, env, st1, S1, R.mv f1, Rs.post_mono q (fun y st2 q v2 H2 m2 f2 S2 r2 => q v2 H2 m2 (f1.trans f2) S2 r2) fun _ _ q => okX.tr f1 q⟩
/-! ### displays -/
theorem allD_rp {vs : List V} {ws : List Wv} {ds : List PyData} (r : RWs X.K H m st.length vs ws) (e : allD ws = some ds) : RpA X.K H (Off m st.length) vs ds := by
  induction r generalizing ds with
  | nil => cases e; exact .nil
  | @cons v vs w ws r1 r2 ih =>
    cases w with
    | d x =>
      rw [allD_cons] at e
      cases q : allD ws with
      | none => rw [q] at e; cases e
      | some es =>
        rw [q] at e
        cases e
        exact .cons r1 (ih q)
    | r i => cases e
    | x a c d => cases e
theorem disp_post {f : List PyData → Rs Wv} {ws : List Wv} {Q : Wv → Sto → Prop} {R : Xc → Sto → Prop} (h : (match allD ws with | some ds => if ds.length ≤ 1000000 then f ds else .no | none => .no : Rs Wv).post Q R) :
    ∃ ds, allD ws = some ds ∧ ds.length ≤ 1000000 ∧ (f ds).post Q R := by
  split at h
  · split at h
    · exact ⟨_, by assumption, by assumption, h⟩
    · exact h.elim
  · exact h.elim
theorem de_tup {es : List Expr} {cs : En → Sto → Rs (List Wv)} {x1} (ha : DA X es cs) : DE X (.Tuple es x1 pos) (eTup cs) := by
  refine ⟨fun W tk => PE.imp (pe_tup (ha.pa W tk)) fun σ H Q ⟨m, env, st, S, R, hp⟩ => ?_⟩
  unfold eTup at hp
  rw [Rs.post_bind] at hp
  refine ⟨m, env, st, S, R, Rs.post_mono hp (fun ws st1 q vs H1 m1 f1 S1 r1 => ?_) fun _ _ q => q⟩
  obtain ⟨ds, e1, e2, q⟩ := disp_post (f := fun ds => .ok (.d (.tuple ds)) st1) q
  have ra := allD_rp r1 e1
  refine ⟨by rw [ra.len]; exact Nat.le_trans e2 line_lim, fun p hn => ?_⟩
  have g := grow_upd (o := .tup vs) hn
  exact q _ _ m1 (f1.trans (.same g)) (S1.grow g) (.tup (.inl upd_same) (ra.mv (Fol.same (m := m1) (n := st1.length) g).kp))
theorem de_lst {es : List Expr} {cs : En → Sto → Rs (List Wv)} (ha : DA X es cs) : DE X (.List es pos) (eLst cs) := by
  refine ⟨fun W tk => PE.imp (pe_lst (ha.pa W tk)) fun σ H Q ⟨m, env, st, S, R, hp⟩ => ?_⟩
  unfold eLst at hp
  rw [Rs.post_bind] at hp
  refine ⟨m, env, st, S, R, Rs.post_mono hp (fun ws st1 q vs H1 m1 f1 S1 r1 => ?_) fun _ _ q => q⟩
  obtain ⟨ds, e1, e2, q⟩ := disp_post (f := fun ds => .ok (.d (.list ds)) st1) q
  have ra := allD_rp r1 e1
  refine ⟨by rw [ra.len]; exact Nat.le_trans e2 line_lim, fun p hn => ?_⟩
  have g := grow_upd (o := .lst vs) hn
  exact q _ _ m1 (f1.trans (.same g)) (S1.grow g) (.lst (.inl ⟨upd_same, S1.fresh hn⟩) (ra.mv (Fol.same (m := m1) (n := st1.length) g).kp))
/-- a new object of the store -/
def mup (m : Mp) (n : Nat) (p : Addr) : Mp := ⟨fun i => if i = n then p else m.ix i, m.F⟩
theorem mup_old {n : Nat} {p : Addr} {i : Nat} (h : i < n) : (mup m n p).ix i = m.ix i := if_neg (by omega)
theorem mup_new {n : Nat} {p : Addr} : (mup m n p).ix n = p := if_pos rfl
theorem fol_new {n : Nat} {p : Addr} {o : HO} (hn : H p = none) : Fol m n H (mup m n p) (n + 1) (upd H p o) where
  tup a xs h := grow_upd hn a _ h
  frz a u x h := grow_upd hn a _ h
  rest a u _ h _ := grow_upd hn a _ h
  old i hi := mup_old hi
  new i h1 h2 := by
    have e : i = n := by omega
    rw [e, mup_new]
    exact nn_no hn
  le := Nat.le_succ n
  dom := domOf (grow_upd hn)
  eF _ _ := Iff.rfl
theorem Sim.new {K : Frg} {H : Hp} {m : Mp} {st : Sto} {p : Addr} {o : HO} {ob : Ob} (S : Sim K H m st) (hn : H p = none) (h : ObAt K (upd H p o) (mup m st.length p) (st.length + 1) p ob) : Sim K (upd H p o) (mup m st.length p) (st ++ [ob]) := by
  have f : Fol m st.length H (mup m st.length p) (st.length + 1) (upd H p o) := fol_new hn
  have hl : (st ++ [ob]).length = st.length + 1 := by simp
  refine ⟨fun i u e => ?_, fun i j hi hj e => ?_, fun a z => f.dom a (S.ff a z), fun i hi => ?_, S.tb.ext (grow_upd hn)⟩
  · rw [hl]
    by_cases q : i < st.length
    · rw [List.getElem?_append_left q] at e
      rw [mup_old q]
      exact (S.ob i u e).mv f fun x => grow_upd hn _ x
    · have e2 : i = st.length := by
        have := (List.getElem?_eq_some_iff.mp e).1
        rw [hl] at this
        omega
      subst e2
      simp at e
      subst e
      rw [mup_new]
      exact h
  · rw [hl] at hi hj
    have key : ∀ x, x < st.length → (mup m st.length p).ix x ≠ p := fun x hx z => by
      rw [mup_old hx] at z
      exact nn_no hn (z ▸ S.there hx)
    by_cases h1 : i < st.length
    · by_cases h2 : j < st.length
      · rw [mup_old h1, mup_old h2] at e
        exact S.inj i j h1 h2 e
      · have : j = st.length := by omega
        subst this
        rw [mup_new] at e
        exact absurd e (key i h1)
    · have : i = st.length := by omega
      subst this
      by_cases h2 : j < st.length
      · rw [mup_new] at e
        exact absurd e.symm (key j h2)
      · omega
  · rw [hl] at hi
    by_cases q : i < st.length
    · rw [mup_old q]; exact S.fi i q
    · have : i = st.length := by omega
      subst this
      rw [mup_new]
      exact fun z => nn_no hn (S.ff p z)
theorem de_newl {es : List Expr} {cs : En → Sto → Rs (List Wv)} (ha : DA X es cs) : DE X (.List es pos) (eNewL cs) := by
  refine ⟨fun W tk => PE.imp (pe_lst (ha.pa W tk)) fun σ H Q ⟨m, env, st, S, R, hp⟩ => ?_⟩
  unfold eNewL at hp
  rw [Rs.post_bind] at hp
  refine ⟨m, env, st, S, R, Rs.post_mono hp (fun ws st1 q vs H1 m1 f1 S1 r1 => ?_) fun _ _ q => q⟩
  obtain ⟨ds, e1, e2, q⟩ := disp_post (f := fun ds => .ok (.r st1.length) (st1 ++ [.lst ds])) q
  have ra := allD_rp r1 e1
  refine ⟨by rw [ra.len]; exact Nat.le_trans e2 line_lim, fun p hn => ?_⟩
  have f2 : Fol m1 st1.length H1 (mup m1 st1.length p) (st1.length + 1) (upd H1 p (.lst vs)) := fol_new hn
  have hl : (st1 ++ [Ob.lst ds]).length = st1.length + 1 := by simp
  refine q _ _ _ ?_ (S1.new hn ⟨vs, upd_same, ra.mv f2.kp⟩) ?_
  · rw [hl]; exact f1.trans f2
  · rw [hl]; exact ⟨Nat.lt_succ_self _, by rw [mup_new]⟩
/-- a dict is pinned as it stands -/
theorem Inv.freeze {pins : List (Addr × Obj)} {σ : L2.St} {H : Hp} {s : Shared} {a : Addr} {u : HO} (I : Inv X pins σ H s) (h : H a = some u) (hu : (∃ ks, u = .dK ks) ∨ ∃ ks, u = .dT ks) : ∃ o, Inv X pins σ (upd H a (.frz o u)) s := by
  have ok : ObjOk X.prog X.w H s.heap a u := I.hok a u h
  obtain ⟨o, ho⟩ : ∃ o, s.heap.get? a = some o := by
    rcases hu with ⟨ks, rfl⟩ | ⟨ks, rfl⟩
    · obtain ⟨_, _, _, _, o, _, _, ho, _⟩ := (show ObjOk X.prog X.w H s.heap a (.dK ks) from ok)
      exact ⟨o, ho⟩
    · obtain ⟨_, _, _, _, o, _, _, ho, _⟩ := (show ObjOk X.prog X.w H s.heap a (.dT ks) from ok)
      exact ⟨o, ho⟩
  refine ⟨o, I.write (t' := s.toks) (x := a) (e := a) (h' := s.heap) (by rw [h]; rcases hu with ⟨ks, rfl⟩ | ⟨ks, rfl⟩ <;> exact True.intro) (.inl rfl) (fun _ _ _ q => q) ⟨o, ho⟩ ⟨ho, ?_⟩⟩
  rcases hu with ⟨ks, rfl⟩ | ⟨ks, rfl⟩
  · exact ok
  · obtain ⟨h1, h2, xs, h3, h4⟩ := (show ObjOk X.prog X.w H s.heap a (.dT ks) from ok)
    refine ⟨h1, h2, xs, ?_, h4⟩
    refine Paired.mono (fun p q z => ⟨z.1, ?_, z.2.2⟩) h3
    rw [upd_ne (fun e => by rw [e, h] at z; exact nomatch Option.some.inj z.2.1)]
    exact z.2.1
theorem pe_freeze {e : Expr} {t : TE} (h : PE X e t) : PE X e (fun σ H Q => t σ H fun v H1 => (∃ a u, v = .ref a ∧ H1 a = some u ∧ ((∃ ks, u = .dK ks) ∨ ∃ ks, u = .dT ks) ∧ ∀ o, Q v (upd H1 a (.frz o u)))) := ⟨fun pins s σ H Q I q =>
  thn (h.run pins s σ H _ I q) fun u s1 ⟨v, H1, I1, rv, a, w, ev, ha, hw, q1⟩ => by
    obtain ⟨o, J⟩ := Inv.freeze I1 ha hw
    exact ⟨v, _, J, rv, q1 o⟩⟩
theorem de_dic0 : DE X (.Dict [] [] pos) eDic0 := by
  refine ⟨fun W tk => PE.imp (pe_freeze pe_dnewK) fun σ H Q ⟨m, env, st, S, R, hp⟩ => ?_⟩
  refine fun p hn => ⟨p, .dK [], rfl, upd_same, .inl ⟨_, rfl⟩, fun o => ?_⟩
  have g := grow_upd (o := .frz o (.dK [])) hn
  rw [show upd (upd H p (.dK [])) p (.frz o (.dK [])) = upd H p (.frz o (.dK [])) from by funext b; by_cases z : b = p <;> simp [upd, z]]
  exact hp _ _ m (.same g) (S.grow g) (.dic upd_same .nil)
end
end
section
variable [Wtp] [Tbl]
section
variable {X : Cx} {pins : List (Addr × Obj)} {σ : L2.St} {H : Hp} {s : Shared}
/-! ## arithmetic -/
def bigOk (i j : Int) : Bool := decide (i.natAbs < 18446744073709551616) || decide (j.natAbs < 18446744073709551616)
def addD : PyData → PyData → Option PyData
  | .int i, .int j => some (.int (i + j))
  | .str x, .str y => if x.length + y.length ≤ 1000000 then some (.str (x ++ y)) else none
  | .tuple xs, .tuple ys => if xs.length + ys.length ≤ 1000000 then some (.tuple (xs ++ ys)) else none
  | .list xs, .list ys => if xs.length + ys.length ≤ 1000000 then some (.list (xs ++ ys)) else none
  | _, _ => none
def subD : PyData → PyData → Option PyData
  | .int i, .int j => some (.int (i - j))
  | _, _ => none
def mulD : PyData → PyData → Option PyData
  | .int i, .int j => if bigOk i j then some (.int (i * j)) else none
  | .tuple xs, .int k => if k = 1 then some (.tuple xs) else if 2 ≤ k ∧ k ≤ 1000 ∧ xs.length ≤ 1000 ∧ xs ≠ [] then some (.tuple (List.replicate k.toNat xs).flatten) else if xs = [] ∧ 0 ≤ k ∧ k ≤ 1000 then some (.tuple []) else none
  | .list xs, .int k => if 0 ≤ k ∧ k ≤ 1000 ∧ xs.length ≤ 1000 then some (.list (List.replicate k.toNat xs).flatten) else none
  | _, _ => none
def divD : PyData → PyData → Option PyData
  | .int i, .int j => if 0 < j ∧ j < 1073741824 then some (.int (i / j)) else if 0 < j ∧ j < 1606938044258990275541962092341162602522202993782792835301376 then some (.int (i / j)) else none
  | _, _ => none
def modD : PyData → PyData → Option PyData
  | .int i, .int j => if 0 < j then some (.int (i % j)) else none
  | _, _ => none
def powD : PyData → PyData → Option PyData
  | .int i, .int j => if 0 ≤ j ∧ j ≤ 1000 ∧ i.natAbs < 18446744073709551616 then some (.int (i ^ j.toNat)) else none
  | _, _ => none
def negD : PyData → Option PyData
  | .int i => some (.int (-i))
  | _ => none
theorem rout_here {Z : Addr → Prop} {r : PyData} {Q : VK} {v : V} (h : rOut X.K H Z r Q) (q : Rp X.K H Z v r) : Q v H := h v H (fun _ _ e => e) q
theorem rout_lst {Z : Addr → Prop} {ds : List PyData} {vs : List V} {Q : VK} (hz : ∀ a, H a = none → Z a) (h : rOut X.K H Z (.list ds) Q) (q : RpA X.K H Z vs ds) : ∀ p, H p = none → Q (.ref p) (upd H p (.lst vs)) := fun p hn =>
  h _ _ (grow_upd hn) (.lst (.inl ⟨upd_same, hz p hn⟩) (q.mv ⟨fun a xs e => grow_upd hn a _ e, fun a o u e => grow_upd hn a _ e, fun a o _ e z => ⟨grow_upd hn a _ e, z⟩⟩))
theorem rout_tup {Z : Addr → Prop} {ds : List PyData} {vs : List V} {Q : VK} (h : rOut X.K H Z (.tuple ds) Q) (q : RpA X.K H Z vs ds) : ∀ p, H p = none → Q (.ref p) (upd H p (.tup vs)) := fun p hn =>
  h _ _ (grow_upd hn) (.tup (.inl upd_same) (q.mv ⟨fun a xs e => grow_upd hn a _ e, fun a o u e => grow_upd hn a _ e, fun a o _ e z => ⟨grow_upd hn a _ e, z⟩⟩))
/-- list + list, whoever holds them -/
theorem op_catP : OpR X (binaryOp .Add) (fun x y H Q => ∃ l b xs zs, x = .ref l ∧ y = .ref b ∧ LsX X.K H l xs ∧ LsX X.K H b zs ∧ xs.length + zs.length ≤ sizeLine ∧ ∀ p, H p = none → Q (.ref p) (upd H p (.lst (xs ++ zs)))) := by
  intro pins s σ H x y v u Q I rx ry h
  obtain ⟨l, b, xs, zs, rfl, rfl, hH, hB, hz, q⟩ := h
  cases rx
  cases ry
  obtain ⟨its, n, r, e, _, l1⟩ := Inv.lsx I hH
  obtain ⟨its2, n2, r2, e2, _, l2⟩ := Inv.lsx I hB
  refine PySem.P.add_list e e2 ?_ (by rw [List.size_toArray, List.size_toArray]; omega)
  have ea : its.toArray ++ its2.toArray = (its ++ its2).toArray := by simp
  rw [ea]
  exact ⟨.ref _, _, I.lnew (t' := s.toks) (r.append r2) (by rw [List.length_append]; omega), rfl, q _ I.fresh⟩
theorem o_add : OpR X (binaryOp .Add) (rD X.K addD) := by
  intro pins s σ H x y v u Q I rx ry ⟨Z, d, e, r, hz, hd, he, hf, ho⟩
  unfold addD at hf
  split at hf
  · cases hf
    exact op_add pins s σ H x y v u Q I rx ry ⟨_, _, hd.int, he.int, rout_here ho (.int _)⟩
  · split at hf
    · cases hf
      exact op_add_str pins s σ H x y v u Q I rx ry ⟨_, _, hd.str, he.str, Nat.le_trans (by assumption) line_lim, rout_here ho (.str _)⟩
    · cases hf
  · split at hf
    · cases hf
      obtain ⟨a, vs, rfl, h1, h2⟩ := hd.tupT
      obtain ⟨b, ws, rfl, k1, k2⟩ := he.tupT
      have l1 := h2.len
      have l2 := k2.len
      refine op_catA pins s σ H _ _ v u Q I rx ry ⟨a, b, vs, ws, rfl, rfl, h1.sq, k1.sq, Nat.le_trans (by omega) line_lim, fun e => ?_, fun e1 e => ?_, fun _ _ => rout_tup ho (h2.app k2)⟩
      · subst e
        cases h2
        exact rout_here ho (.tup k1 k2)
      · subst e
        cases k2
        rw [List.append_nil] at ho
        exact rout_here ho (.tup h1 h2)
    · cases hf
  · split at hf
    · cases hf
      obtain ⟨a, vs, rfl, h1, h2⟩ := hd.lst
      obtain ⟨b, ws, rfl, k1, k2⟩ := he.lst
      have l1 := h2.len
      have l2 := k2.len
      exact op_catP pins s σ H _ _ v u Q I rx ry ⟨a, b, vs, ws, rfl, rfl, h1, k1, Nat.le_trans (by omega) line_lim, rout_lst hz ho (h2.app k2)⟩
    · cases hf
  · cases hf
theorem o_sub : OpR X (binaryOp .Sub) (rD X.K subD) := by
  intro pins s σ H x y v u Q I rx ry ⟨Z, d, e, r, hz, hd, he, hf, ho⟩
  unfold subD at hf
  split at hf
  · cases hf
    exact op_sub pins s σ H x y v u Q I rx ry ⟨_, _, hd.int, he.int, rout_here ho (.int _)⟩
  · cases hf
theorem cmul_of {i j : Int} (h : bigOk i j = true) : CMul i j := by
  unfold bigOk at h
  rw [Bool.or_eq_true, decide_eq_true_eq, decide_eq_true_eq] at h
  rcases h with h | h
  · exact .inl ⟨by omega, by omega⟩
  · exact .inr ⟨by omega, by omega⟩
theorem RpA.rep {K : Frg} {H : Hp} {Z : Addr → Prop} {vs : List V} {ds : List PyData} (h : RpA K H Z vs ds) : ∀ n : Nat, RpA K H Z (List.replicate n vs).flatten (List.replicate n ds).flatten
  | 0 => .nil
  | n + 1 => by
    rw [List.replicate_succ, List.replicate_succ, List.flatten_cons, List.flatten_cons]
    exact h.app (RpA.rep h n)
/-- list * int, whoever holds it -/
theorem op_repP : OpR X (binaryOp .Mult) (fun x y H Q => ∃ l k xs, x = .ref l ∧ y = .int k ∧ LsX X.K H l xs ∧ 0 ≤ k ∧ k ≤ 1000 ∧ xs.length ≤ 1000 ∧ ∀ p, H p = none → Q (.ref p) (upd H p (.lst (List.replicate k.toNat xs).flatten))) := by
  intro pins s σ H x y v u Q I rx ry h
  obtain ⟨l, k, xs, rfl, rfl, hH, h1, h2, hl, q⟩ := h
  cases rx
  obtain ⟨t, rfl⟩ := ry
  obtain ⟨its, n, r, e, _, l1⟩ := Inv.lsx I hH
  have line := line_lim
  have small : its.toArray.size * k.toNat ≤ 1000000 := by
    rw [List.size_toArray]
    exact Nat.le_trans (Nat.mul_le_mul (show its.length ≤ 1000 by omega) (show k.toNat ≤ 1000 by omega)) (by decide)
  have c1 : ¬ its.toArray.size * k.toNat > (2 ^ 63 - 1) / 8 := by omega
  have c2 : ¬ (!Builtin.List.listFitsIndex k) = true := by
    rw [fitsIndex_both (by omega) (by omega)]
    exact Bool.false_ne_true
  have c3 : ¬ Builtin.List.listTooLong (its.toArray.size * k.toNat) = true := by
    rw [notLongL (by omega)]
    exact Bool.false_ne_true
  have made : List.foldl (fun a b => a ++ b) #[] (List.replicate (if its.toArray.isEmpty = true then 0 else k.toNat) its.toArray) = (List.replicate k.toNat its).flatten.toArray := by
    rw [size_rep]
    cases its with
    | nil => simp
    | cons a r' => rw [if_neg (by simp)]
  have big : (List.replicate k.toNat xs).flatten.length ≤ sizeLine := by
    rw [PyProof.Rows.lm_len_rep_flat]
    exact Nat.le_trans (Nat.mul_le_mul (show k.toNat ≤ 1000 by omega) hl) (Nat.le_trans (by decide) line)
  refine wpAny_binaryOp_repeat_ref (T := "list") (U := "int") (by decide) ⟨_, e, rfl⟩ (fun s' => typeIs_int s' k t) noFill_list_mul F.fills_int_mul F.slot_int_rmul repeat_list F.slot_int_index.lookup ?_
  refine call_meets F.slot_int_rmul (typeIs_int s k t) F.entry_int_rmul (F.args_int_rmul_2 _ _) (int___rmul___int_list k t l its.toArray n) ⟨e, rfl, ⟨_, e, rfl⟩, ?_⟩
  refine call_meets F.slot_list_mul ⟨_, e, rfl⟩ F.entry_list_mul (F.args_list_mul_2 _ _) (AutoListH.list___mul___list_int_3 l its.toArray n k t c2 c1 c3) ⟨e, ?_⟩
  rw [made]
  exact ⟨.ref _, _, I.lnew (t' := s.toks) (r.rep k.toNat) big, rfl, q _ I.fresh⟩
theorem tuple_mulS (l : Addr) (items : Array Value) (n : Nat) (dd : Option Addr) (sl : Array (Option Value)) (x : Int) (u : Tok) (c0 : (decide (x < -(2 ^ 63)) || decide (x ≥ 2 ^ 63)) = false) (c1 : (items.isEmpty || x == 1) = true) :
    Meets (Builtin.«tuple.__mul__» ⟨[.ref l, .int x u], []⟩) (fun _ R s => s.heap.get? l = some { cls := .type "tuple", dict := dd, data := .seq items n, slots := sl } ∧ R (.ok (.ret (Value.ref l))) s) :=
  .of_wp fun prog w A R s h => by
    obtain ⟨hp, g, d, tk, os⟩ := s
    obtain ⟨hl, h⟩ := h
    have f1 := AutoSeq1.idx_int
    wp_walk using wpAny_loadPart' hl
    repeat (first
      | (refine wpAny_ite_false (decide_eq_false (by rw [c0]; exact Bool.false_ne_true)) ?_; wp_walk using wpAny_loadPart' hl)
      | (refine wpAny_ite_false (decide_eq_false (by decide)) ?_; wp_walk using wpAny_loadPart' hl)
      | (refine wpAny_ite_true c1 ?_; wp_walk using wpAny_loadPart' hl))
    exact ⟨_, rfl, h⟩
theorem op_repT1 : OpR X (binaryOp .Mult) (fun x y H Q => ∃ l k xs, x = .ref l ∧ y = .int k ∧ SqT X.K H l xs ∧ (k = 1 ∨ xs = []) ∧ 0 ≤ k ∧ k ≤ 1000 ∧ Q (.ref l) H) := by
  intro pins s σ H x y v u Q I rx ry h
  obtain ⟨l, k, xs, rfl, rfl, hT, hk, k0, k1, q⟩ := h
  cases rx
  obtain ⟨t, rfl⟩ := ry
  obtain ⟨its, r, ⟨⟨cls, dd, data, sl⟩, ho, hc, n, hd⟩, hs⟩ := I.tuple hT
  simp only at hc hd
  subst hc hd
  have c1 : (its.toArray.isEmpty || k == 1) = true := by
    rcases hk with rfl | rfl
    · simp
    · cases r
      simp
  have c0 : (decide (k < -(2 ^ 63)) || decide (k ≥ 2 ^ 63)) = false := by
    rw [Bool.or_eq_false_iff]
    exact ⟨decide_eq_false (by omega), decide_eq_false (by omega)⟩
  refine wpAny_binaryOp_repeat_ref (T := "tuple") (U := "int") (by decide) ⟨_, ho, rfl⟩ (fun s' => typeIs_int s' k t) noFill_tuple_mul F.fills_int_mul F.slot_int_rmul repeat_tuple F.slot_int_index.lookup
    (call_meets F.slot_int_rmul (typeIs_int s k t) F.entry_int_rmul (F.args_int_rmul_2 _ _) (int_rmul_tuple k t l its.toArray n dd sl)
      ⟨ho, rfl, ⟨_, ho, rfl⟩, call_meets F.slot_tuple_mul ⟨_, ho, rfl⟩ F.entry_tuple_mul (F.args_tuple_mul_2 _ _) (tuple_mulS l its.toArray n dd sl k t c0 c1) ⟨ho, ?_⟩⟩)
  exact ⟨.ref l, H, I, rfl, q⟩
theorem o_mul : OpR X (binaryOp .Mult) (rD X.K mulD) := by
  intro pins s σ H x y v u Q I rx ry ⟨Z, d, e, r, hz, hd, he, hf, ho⟩
  unfold mulD at hf
  split at hf
  · split at hf
    · cases hf
      exact op_mul pins s σ H x y v u Q I rx ry ⟨_, _, hd.int, he.int, cmul_of (by assumption), rout_here ho (.int _)⟩
    · cases hf
  · split at hf
    · rename_i h
      cases hf
      subst h
      have ey := he.int
      subst ey
      obtain ⟨a, vs, rfl, h1, h2⟩ := hd.tupT
      exact op_repT1 pins s σ H _ _ v u Q I rx ry ⟨a, 1, vs, rfl, rfl, h1.sq, .inl rfl, by decide, by decide, rout_here ho (.tup h1 h2)⟩
    rename_i hk1
    split at hf
    · rename_i h
      cases hf
      obtain ⟨a, vs, rfl, h1, h2⟩ := hd.tup
      have l1 := h2.len
      refine op_repT pins s σ H _ _ v u Q I rx ry ⟨a, _, vs, rfl, he.int, h1, fun e => ?_, h.1, h.2.1, by omega, rout_tup ho (h2.rep _)⟩
      subst e
      cases h2
      exact h.2.2.2 rfl
    rename_i hk2
    split at hf
    · rename_i h
      cases hf
      have ey := he.int
      subst ey
      obtain ⟨rfl, h0, h9⟩ := h
      obtain ⟨a, vs, rfl, h1, h2⟩ := hd.tupT
      have ev : vs = [] := by cases h2; rfl
      exact op_repT1 pins s σ H _ _ v u Q I rx ry ⟨a, _, vs, rfl, rfl, h1.sq, .inr ev, h0, h9, rout_here ho (.tup h1 h2)⟩
    · cases hf
  · split at hf
    · rename_i h
      cases hf
      obtain ⟨a, vs, rfl, h1, h2⟩ := hd.lst
      have l1 := h2.len
      exact op_repP pins s σ H _ _ v u Q I rx ry ⟨a, _, vs, rfl, he.int, h1, h.1, h.2.1, by omega, rout_lst hz ho (h2.rep _)⟩
    · cases hf
  · cases hf
theorem op_fdivW : OpR X (binaryOp .FloorDiv) (rI (fun _ j => 0 < j ∧ j < 1606938044258990275541962092341162602522202993782792835301376) fun i j => .int (i / j)) := opI fun i j _ _ _ _ _ hc q => by
  have h1 : (0 : Int) < j := hc.1
  have h2 : j < 1606938044258990275541962092341162602522202993782792835301376 := hc.2
  have h3 : j.natAbs.log2 < 9000 := Nat.lt_of_lt_of_le ((Nat.log2_lt (by omega)).mpr (show j.natAbs < 2 ^ 200 by omega)) (by decide)
  exact floordiv_int (by omega) (by rw [Int.fdiv_eq_ediv_of_nonneg i (by omega)]; exact q) (.inl (PyProof.noPylong_of_log2 h3))
theorem o_div : OpR X (binaryOp .FloorDiv) (rD X.K divD) := by
  intro pins s σ H x y v u Q I rx ry ⟨Z, d, e, r, hz, hd, he, hf, ho⟩
  unfold divD at hf
  split at hf
  · split at hf
    · cases hf
      exact op_fdiv pins s σ H x y v u Q I rx ry ⟨_, _, hd.int, he.int, by assumption, rout_here ho (.int _)⟩
    · split at hf
      · cases hf
        exact op_fdivW pins s σ H x y v u Q I rx ry ⟨_, _, hd.int, he.int, by assumption, rout_here ho (.int _)⟩
      · cases hf
  · cases hf
theorem divD_ok {i j : Int} (h : 0 < j) (h2 : j < 1606938044258990275541962092341162602522202993782792835301376) : divD (.int i) (.int j) = some (.int (i / j)) := by
  show (if 0 < j ∧ j < 1073741824 then some (PyData.int (i / j)) else if 0 < j ∧ j < 1606938044258990275541962092341162602522202993782792835301376 then some (.int (i / j)) else none) = _
  by_cases q : j < 1073741824
  · rw [if_pos ⟨h, q⟩]
  · rw [if_neg (fun z => q z.2), if_pos ⟨h, h2⟩]
theorem o_mod : OpR X (binaryOp .Mod) (rD X.K modD) := by
  intro pins s σ H x y v u Q I rx ry ⟨Z, d, e, r, hz, hd, he, hf, ho⟩
  unfold modD at hf
  split at hf
  · split at hf
    · cases hf
      exact op_mod pins s σ H x y v u Q I rx ry ⟨_, _, hd.int, he.int, by assumption, rout_here ho (.int _)⟩
    · cases hf
  · cases hf
theorem o_pow : OpR X (binaryOp .Pow) (rD X.K powD) := by
  intro pins s σ H x y v u Q I rx ry ⟨Z, d, e, r, hz, hd, he, hf, ho⟩
  unfold powD at hf
  split at hf
  · split at hf
    · rename_i h
      cases hf
      exact op_pow pins s σ H x y v u Q I rx ry ⟨_, _, hd.int, he.int, ⟨h.1, by omega, by have := h.2.2; omega⟩, rout_here ho (.int _)⟩
    · cases hf
  · cases hf
theorem o_neg : UnR X (unaryOp .USub) (rU1 X.K negD) := by
  intro pins s σ H x v Q I rx ⟨Z, d, r, hz, hd, hf, ho⟩
  unfold negD at hf
  split at hf
  · cases hf
    exact un_neg pins s σ H x v Q I rx ⟨_, hd.int, rout_here ho (.int _)⟩
  · cases hf
end
end
section
variable [Wtp] [Tbl]
section
variable {X : Cx} {pins : List (Addr × Obj)} {σ : L2.St} {H : Hp} {s : Shared}
/-! ## comparisons -/
def cmpOk (a b : PyData) : Bool := a.plain && (b.plain && decide (min a.depth b.depth ≤ 40))
def eqD (a b : PyData) : Option PyData := if cmpOk a b then some (.bool (PyData.eqv a b)) else none
def neD (a b : PyData) : Option PyData := if cmpOk a b then some (.bool (!PyData.eqv a b)) else none
def isNone : PyData → Bool
  | .none => true
  | _ => false
def ltD' (a b : PyData) : Bool := PySem.W.alike a b && (!isNone a && decide (min a.depth b.depth ≤ 40))
def ltD : PyData → PyData → Option PyData
  | .int i, .int j => some (.bool (decide (i < j)))
  | a, b => if ltD' a b then some (.bool (PySem.W.dataLt a b)) else none
def gtD : PyData → PyData → Option PyData
  | .int i, .int j => some (.bool (decide (j < i)))
  | a, b => if ltD' a b then some (.bool (PySem.W.dataLt b a)) else none
def leD : PyData → PyData → Option PyData
  | .int i, .int j => some (.bool (decide (i ≤ j)))
  | a, b => if ltD' a b then some (.bool (!PySem.W.dataLt b a)) else none
def geD : PyData → PyData → Option PyData
  | .int i, .int j => some (.bool (decide (j ≤ i)))
  | a, b => if ltD' a b then some (.bool (!PySem.W.dataLt a b)) else none
def isND (a b : PyData) : Option PyData := if isNone b then some (.bool (isNone a)) else none
def ntND (a b : PyData) : Option PyData := if isNone b then some (.bool (!isNone a)) else none
theorem rout_bl {Z : Addr → Prop} {b : Bool} {Q : VK} {I : Inv X pins σ H s} (h : rOut X.K H Z (.bool b) Q) : EP X pins σ Q (.bool b) s := ⟨.bl b, H, I, rfl, rout_here h (.bl b)⟩
theorem room_eq {k n : Nat} {A : Around} (hr : L2H.RoomH k A) (h : n ≤ 60) : A.units + n < cLine := by have := hr.un; omega
theorem o_eq {k : Nat} (hr : L2H.RoomH k X.A) : OpR X (compareOp .Eq) (rD X.K eqD) := by
  intro pins s σ H x y v u Q I rx ry ⟨Z, d, e, r, hz, hd, he, hf, ho⟩
  unfold eqD at hf
  split at hf
  · rename_i h
    cases hf
    unfold cmpOk at h
    simp only [Bool.and_eq_true, decide_eq_true_eq] at h
    obtain ⟨as, r1⟩ := Inv.rt I hd rx
    obtain ⟨bs, r2⟩ := Inv.rt I he ry
    exact PySem.SeqAt.eq_plain r1 r2 h.1 h.2.1 (room_eq hr (by omega)) (rout_bl (I := I) ho)
  · cases hf
theorem o_ne {k : Nat} (hr : L2H.RoomH k X.A) : OpR X (compareOp .NotEq) (rD X.K neD) := by
  intro pins s σ H x y v u Q I rx ry ⟨Z, d, e, r, hz, hd, he, hf, ho⟩
  unfold neD at hf
  split at hf
  · rename_i h
    cases hf
    unfold cmpOk at h
    simp only [Bool.and_eq_true, decide_eq_true_eq] at h
    obtain ⟨as, r1⟩ := Inv.rt I hd rx
    obtain ⟨bs, r2⟩ := Inv.rt I he ry
    exact PySem.SeqAt.ne_plain r1 r2 h.1 h.2.1 (room_eq hr (by omega)) (rout_bl (I := I) ho)
  · cases hf
theorem ltD_of {a b : PyData} (h : ltD' a b = true) : PySem.W.alike a b = true ∧ a ≠ .none ∧ min a.depth b.depth ≤ 40 := by
  unfold ltD' at h
  simp only [Bool.and_eq_true, decide_eq_true_eq, Bool.not_eq_true'] at h
  refine ⟨h.1, fun e => ?_, h.2.2⟩
  subst e
  exact absurd h.2.1 (by decide)
theorem o_lt {k : Nat} (hr : L2H.RoomH k X.A) : OpR X (compareOp .Lt) (rD X.K ltD) := by
  intro pins s σ H x y v u Q I rx ry ⟨Z, d, e, r, hz, hd, he, hf, ho⟩
  unfold ltD at hf
  split at hf
  · cases hf
    exact op_lt pins s σ H x y v u Q I rx ry ⟨_, _, hd.int, he.int, rout_here ho (.bl _)⟩
  · split at hf
    · rename_i h
      cases hf
      obtain ⟨h1, h2, h3⟩ := ltD_of h
      obtain ⟨as, r1⟩ := Inv.rt I hd rx
      obtain ⟨bs, r2⟩ := Inv.rt I he ry
      exact PySem.W.lt_data r1 r2 h1 h2 (room_eq hr (by omega)) (rout_bl (I := I) ho)
    · cases hf
theorem o_gt {k : Nat} (hr : L2H.RoomH k X.A) : OpR X (compareOp .Gt) (rD X.K gtD) := by
  intro pins s σ H x y v u Q I rx ry ⟨Z, d, e, r, hz, hd, he, hf, ho⟩
  unfold gtD at hf
  split at hf
  · cases hf
    exact op_gt pins s σ H x y v u Q I rx ry ⟨_, _, hd.int, he.int, rout_here ho (.bl _)⟩
  · split at hf
    · rename_i h
      cases hf
      obtain ⟨h1, h2, h3⟩ := ltD_of h
      obtain ⟨as, r1⟩ := Inv.rt I hd rx
      obtain ⟨bs, r2⟩ := Inv.rt I he ry
      exact PySem.W.gt_data r1 r2 h1 h2 (room_eq hr (by omega)) (rout_bl (I := I) ho)
    · cases hf
theorem o_le {k : Nat} (hr : L2H.RoomH k X.A) : OpR X (compareOp .LtE) (rD X.K leD) := by
  intro pins s σ H x y v u Q I rx ry ⟨Z, d, e, r, hz, hd, he, hf, ho⟩
  unfold leD at hf
  split at hf
  · cases hf
    exact op_le pins s σ H x y v u Q I rx ry ⟨_, _, hd.int, he.int, rout_here ho (.bl _)⟩
  · split at hf
    · rename_i h
      cases hf
      obtain ⟨h1, h2, h3⟩ := ltD_of h
      obtain ⟨as, r1⟩ := Inv.rt I hd rx
      obtain ⟨bs, r2⟩ := Inv.rt I he ry
      exact PySem.W.le_data r1 r2 h1 h2 (room_eq hr (by omega)) (rout_bl (I := I) ho)
    · cases hf
theorem o_ge {k : Nat} (hr : L2H.RoomH k X.A) : OpR X (compareOp .GtE) (rD X.K geD) := by
  intro pins s σ H x y v u Q I rx ry ⟨Z, d, e, r, hz, hd, he, hf, ho⟩
  unfold geD at hf
  split at hf
  · cases hf
    exact op_ge pins s σ H x y v u Q I rx ry ⟨_, _, hd.int, he.int, rout_here ho (.bl _)⟩
  · split at hf
    · rename_i h
      cases hf
      obtain ⟨h1, h2, h3⟩ := ltD_of h
      obtain ⟨as, r1⟩ := Inv.rt I hd rx
      obtain ⟨bs, r2⟩ := Inv.rt I he ry
      exact PySem.W.ge_data r1 r2 h1 h2 (room_eq hr (by omega)) (rout_bl (I := I) ho)
    · cases hf
theorem isNone_v {Z : Addr → Prop} {x : V} {d : PyData} (h : RT X.K H Z x d) : decide (x = .non) = isNone d := by
  cases d with
  | none => rw [h.non]; rfl
  | bool b => rw [h.bl]; rfl
  | int i => rw [h.int]; rfl
  | str x => rw [h.str]; rfl
  | list xs => obtain ⟨a, vs, rfl, _⟩ := h.lst; rfl
  | tuple xs => obtain ⟨a, vs, rfl, _⟩ := h.tup; rfl
  | dict xs => obtain ⟨a, rfl, _⟩ := h.dic; rfl
theorem o_ntN : OpR X (compareOp .IsNot) (rD X.K ntND) := by
  intro pins s σ H x y v u Q I rx ry ⟨Z, d, e, r, hz, hd, he, hf, ho⟩
  unfold ntND at hf
  split at hf
  · rename_i h
    cases hf
    have h2 := isNone_v he
    rw [h, decide_eq_true_eq] at h2
    exact op_notN pins s σ H x y v u Q I rx ry ⟨h2, by rw [isNone_v hd]; exact rout_here ho (.bl _)⟩
  · cases hf
/-! ## in, not in -/
def inOk (d : PyData) (xs : List PyData) : Bool := d.plain && (PyData.plainAll xs && decide (min (PyData.depthAll xs) d.depth ≤ 40))
def hasKey (es : List (PyData × PyData)) (k : Key) : Bool := es.any fun e => decide (keyD e.1 = some k)
def kindK : List (PyData × PyData) → Bool
  | [] => true
  | (c, _) :: _ => (keyD c).isSome
def kindT : List (PyData × PyData) → Bool
  | [] => true
  | (c, _) :: _ => (tkD c).isSome
/-- a look-up of a tuple -/
def dLookT (es : List (PyData × PyData)) (k : List Key) : Option PyData := (es.find? fun e => decide (tkD e.1 = some k)).map (·.2)
def inB (d : PyData) : PyData → Option Bool
  | .list xs => if inOk d xs then some (xs.any fun y => PyData.eqv y d) else none
  | .tuple xs => if inOk d xs then some (xs.any fun y => PyData.eqv y d) else none
  | .dict es => match keyD d with
    | some k => if kindK es = true then some (hasKey es k) else none
    | none => match tkD d with
      | some ks => if kindT es = true then some (dLookT es ks).isSome else none
      | none => none
  | .str z => match d with
    | .str x => some (!(Builtin.Str.occurrences z x 0 z.length 1).isEmpty)
    | _ => none
  | _ => none
theorem keyD_v {Z : Addr → Prop} {x : V} {d : PyData} {k : Key} (h : RT X.K H Z x d) (e : keyD d = some k) : x = kV k := by
  cases d with
  | int i => cases e; exact h.int
  | str y => cases e; exact h.str
  | _ => cases e
/-- a dict's look-up -/
def dLook (es : List (PyData × PyData)) (k : Key) : Option PyData := (es.find? fun e => decide (keyD e.1 = some k)).map (·.2)
theorem dLook_rp {Z : Addr → Prop} {ks : List (Key × V)} {es : List (PyData × PyData)} (k : Key) (h : RpK X.K H Z ks es) :
    (∃ v d, valV ks k = some v ∧ dLook es k = some d ∧ Rp X.K H Z v d) ∨ (valV ks k = none ∧ dLook es k = none) := by
  induction ks generalizing es with
  | nil => cases h; exact .inr ⟨rfl, rfl⟩
  | cons p ks ih =>
    cases h with
    | @cons k0 v _ c d es h0 h1 h2 =>
      by_cases e : k0 = k
      · refine .inl ⟨v, d, valV_pos e, ?_, h1⟩
        unfold dLook
        rw [List.find?_cons_of_pos (by rw [h0, e]; simp)]
        rfl
      · have e2 : dLook ((c, d) :: es) k = dLook es k := by
          unfold dLook
          rw [List.find?_cons_of_neg (by rw [h0]; simpa using e)]
        rw [valV_neg (p := (k0, v)) e, e2]
        exact ih h2
theorem hasKey_look (es : List (PyData × PyData)) (k : Key) : hasKey es k = (dLook es k).isSome := by
  unfold hasKey dLook
  rw [Option.isSome_map, List.isSome_find?]
theorem valV_has {Z : Addr → Prop} {ks : List (Key × V)} {es : List (PyData × PyData)} (k : Key) (h : RpK X.K H Z ks es) : (valV ks k).isSome = hasKey es k := by
  rw [hasKey_look]
  rcases dLook_rp k h with ⟨v, d, e1, e2, _⟩ | ⟨e1, e2⟩
  · rw [e1, e2]; rfl
  · rw [e1, e2]; rfl
theorem tkD_keyD {c : PyData} {k : List Key} (h : tkD c = some k) : keyD c = none := by cases c <;> first | rfl | cases h
theorem dLookT_rp {Z : Addr → Prop} {ks : List (List Key × V)} {es : List (PyData × PyData)} (k : List Key) (h : RpT X.K H Z ks es) :
    (∃ v d, valV ks k = some v ∧ dLookT es k = some d ∧ Rp X.K H Z v d) ∨ (valV ks k = none ∧ dLookT es k = none) := by
  induction ks generalizing es with
  | nil => cases h; exact .inr ⟨rfl, rfl⟩
  | cons p ks ih =>
    cases h with
    | @cons k0 v _ c d es h0 h1 h2 =>
      by_cases e : k0 = k
      · refine .inl ⟨v, d, valV_pos e, ?_, h1⟩
        unfold dLookT
        rw [List.find?_cons_of_pos (by rw [h0, e]; simp)]
        rfl
      · have e2 : dLookT ((c, d) :: es) k = dLookT es k := by
          unfold dLookT
          rw [List.find?_cons_of_neg (by rw [h0]; simpa using e)]
        rw [valV_neg (p := (k0, v)) e, e2]
        exact ih h2
theorem valV_hasT {Z : Addr → Prop} {ks : List (List Key × V)} {es : List (PyData × PyData)} (k : List Key) (h : RpT X.K H Z ks es) : (valV ks k).isSome = (dLookT es k).isSome := by
  rcases dLookT_rp k h with ⟨v, d, e1, e2, _⟩ | ⟨e1, e2⟩
  · rw [e1, e2]; rfl
  · rw [e1, e2]; rfl
theorem dLook_T {Z : Addr → Prop} {ks : List (List Key × V)} {es : List (PyData × PyData)} (k : Key) (h : RpT X.K H Z ks es) : dLook es k = none := by
  induction ks generalizing es with
  | nil => cases h; rfl
  | cons p ks ih =>
    cases h with
    | @cons k0 v _ c d es h0 h1 h2 =>
      unfold dLook
      rw [List.find?_cons_of_neg (by rw [tkD_keyD h0]; simp)]
      exact ih h2
theorem dLookT_K {Z : Addr → Prop} {ks : List (Key × V)} {es : List (PyData × PyData)} (k : List Key) (h : RpK X.K H Z ks es) : dLookT es k = none := by
  induction ks generalizing es with
  | nil => cases h; rfl
  | cons p ks ih =>
    cases h with
    | @cons k0 v _ c d es h0 h1 h2 =>
      have n : tkD c = none := by cases c <;> first | rfl | cases h0
      unfold dLookT
      rw [List.find?_cons_of_neg (by rw [n]; simp)]
      exact ih h2
/-- a key that is a tuple -/
theorem tkD_v {Z : Addr → Prop} {x : V} {d : PyData} {k : List Key} (h : RT X.K H Z x d) (e : tkD d = some k) : ∃ b, x = .ref b ∧ SqT X.K H b (k.map kV) := by
  cases d with
  | tuple ds =>
    obtain ⟨b, vs, rfl, h1, h2⟩ := h.tup
    have : ∀ {vs : List V} {ds : List PyData} {k : List Key}, RpA X.K H Z vs ds → keysD ds = some k → vs = k.map kV := by
      intro vs ds
      induction ds generalizing vs with
      | nil => intro k r e; cases e; cases r; rfl
      | cons d ds ih =>
        intro k r e
        unfold keysD at e
        split at e
        · rename_i k0 ks e1 e2
          cases e
          cases r with
          | cons r1 r2 => rw [List.map_cons, ih r2 e2, keyD_v (Z := Z) (.inl r1) e1]
        · cases e
    rw [this h2 (show keysD ds = some k from e)] at h1
    exact ⟨b, rfl, h1⟩
  | _ => cases e
theorem key_ofS (I : Inv X pins σ H s) {b : Addr} {ks : List Key} (h : SqT X.K H b (ks.map kV)) : (tupleKind (mixKind X.prog X.w)).is s.heap ks b := by
  obtain ⟨its, rv, ⟨o, ho, hc, n, hd⟩, _⟩ := I.tuple h
  exact ⟨o, its.toArray, n, ho, hc, hd, by simpa using items_are rv⟩
/-! ## subscripts, slices -/
def atD {α : Type} (xs : List α) (i : Int) : Option α := (ixN xs.length i).bind fun j => xs[j]?
def ixD : PyData → PyData → Option PyData
  | .list xs, .int i => atD xs i
  | .tuple xs, .int i => atD xs i
  | .str z, .int i => if z.length ≤ 1000000 then (atD z.cps.toList i).map fun c => .str ⟨#[c]⟩ else none
  | .dict es, k => match keyD k with
    | some k => dLook es k
    | none => match tkD k with
      | some ks => dLookT es ks
      | none => none
  | _, _ => none
theorem atI_rp {Z : Addr → Prop} {vs : List V} {ds : List PyData} {i : Int} {d : PyData} (h : RpA X.K H Z vs ds) (e : atD ds i = some d) : ∃ v, atI vs i = some v ∧ Rp X.K H Z v d := by
  unfold atD at e
  rw [← h.len] at e
  unfold atI
  cases q : ixN vs.length i with
  | none => rw [q] at e; cases e
  | some j =>
    rw [q] at e
    exact h.get (i := j) e
theorem o_ix {k : Nat} (hr : L2H.RoomH k X.A) : IxR X (rD X.K ixD) := by
  intro val sli pins s σ H x y v u Q I rx ry ⟨Z, d, e, r, hz, hd, he, hf, ho⟩ hs
  unfold ixD at hf
  split at hf
  · obtain ⟨a, vs, rfl, h1, h2⟩ := hd.lst
    obtain ⟨w, hw, rw'⟩ := atI_rp h2 hf
    exact ix_list val sli pins s σ H _ y v u Q I rx ry ⟨a, vs, _, w, rfl, he.int, h1.sq, hw, rout_here ho rw'⟩ hs
  · obtain ⟨a, vs, rfl, h1, h2⟩ := hd.tup
    obtain ⟨w, hw, rw'⟩ := atI_rp h2 hf
    exact ix_tup val sli pins s σ H _ y v u Q I rx ry ⟨a, vs, _, w, rfl, he.int, h1, hw, rout_here ho rw'⟩ hs
  · split at hf
    · rename_i z i hl
      cases q : atD z.cps.toList i with
      | none => rw [q] at hf; cases hf
      | some c =>
        rw [q] at hf
        cases hf
        exact ix_str val sli pins s σ H x y v u Q I rx ry ⟨_, _, c, hd.str, he.int, Nat.le_trans hl line_lim, q, rout_here ho (.str _)⟩ hs
    · cases hf
  · split at hf
    · rename_i kk hk
      obtain ⟨a, rfl, h1⟩ := hd.dic
      cases rx
      have e1 := keyD_v he hk
      subst e1
      rcases h1 with ⟨ks, h1, h2⟩ | ⟨ks, h1, h2⟩
      · rcases dLook_rp kk h2 with ⟨w, d', e1, e2, rw'⟩ | ⟨e1, e2⟩
        · rw [e2] at hf
          cases hf
          have g : DGet H a (kV kk) (some w) := by rw [← e1]; exact .inl ⟨_, _, h1, rfl, rfl⟩
          exact tail_any (dict_typeIs I g) PySem.F.slot_dict_getitem.lookup (d_getItem (room_eq hr (show 1 ≤ 60 by decide)) I g ry fun w' s1 I1 r1 => ⟨w, H, I1, r1, rout_here ho rw'⟩) hs
        · rw [e2] at hf
          cases hf
      · rw [dLook_T kk h2] at hf
        cases hf
    · split at hf
      · rename_i kk hk
        obtain ⟨a, rfl, h1⟩ := hd.dic
        cases rx
        obtain ⟨b, rfl, h3⟩ := tkD_v he hk
        cases ry
        rcases h1 with ⟨ks, h1, h2⟩ | ⟨ks, h1, h2⟩
        · rw [dLookT_K kk h2] at hf
          cases hf
        · rcases dLookT_rp kk h2 with ⟨w, d', e1, e2, rw'⟩ | ⟨e1, e2⟩
          · rw [e2] at hf
            cases hf
            obtain ⟨_, _, xs, rel, dd⟩ := dt_rd I.hok h1
            obtain ⟨w', hw, rw2⟩ := RelO.some_of (v := w) (o := (atKey xs kk).map (·.2)) (by rw [← e1]; exact rel.val kk)
            obtain ⟨p, hp, hp2⟩ := Option.map_eq_some_iff.mp hw
            refine tail_any (dd.typeIs) PySem.F.slot_dict_getitem.lookup (wpAny_getItem_heap (tupleKind_room_in1 (room_eq hr (show 1 ≤ 60 by decide))) (key_ofS I h3) dd hp ?_) hs
            rw [hp2]
            exact ⟨w, H, I.tok _, rw2, rout_here ho rw'⟩
          · rw [e2] at hf
            cases hf
      · cases hf
  · cases hf
theorem de_ix {k : Nat} (hr : L2H.RoomH k X.A) {a b : Expr} {ca cb : En → Sto → Rs Wv} {pos : Pos} (ha : DE X a ca) (hb : DE X b cb) (hs : PlainIx b) : DE X (.Subscript a b pos) (eOp2 ixD ca cb) :=
  ⟨fun W tk => PE.imp (pe_ix (o_ix hr) (ha.pe W tk) (hb.pe W tk) hs) fun σ H Q => te_two ixD⟩
/-- a part of a slice -/
structure DO (X : Cx) (e : Option Expr) (c : En → Sto → Rs (Option Int)) : Prop where
  po : ∀ W, Takes X W → PO X e fun σ H Q => ∃ m env st, Sim X.K H m st ∧ EnvR X.K H m st.length env σ ∧ (c env st).post (fun i st' => ∀ H' m', Fol m st.length H m' st'.length H' → Sim X.K H' m' st' → Q i H') (okX X W m st.length H σ)
def pNo : En → Sto → Rs (Option Int) := fun _ st => .ok none st
def pSome (c : En → Sto → Rs Wv) : En → Sto → Rs (Option Int) := fun env st => (c env st).bind fun w st1 => match w with
  | .d (.int i) => .ok (some i) st1
  | _ => .no
theorem PO.imp {e : Option Expr} {t t' : TO} (h : PO X e t) (q : ∀ σ H Q, t' σ H Q → t σ H Q) : PO X e t' := ⟨fun pins s σ H Q I x => h.run pins s σ H Q I (q σ H Q x)⟩
theorem do_no : DO X none pNo := ⟨fun W tk => PO.imp po_none fun σ H Q ⟨m, env, st, S, R, hp⟩ => hp H m .refl S⟩
theorem do_some {e : Expr} {c : En → Sto → Rs Wv} (h : DE X e c) : DO X (some e) (pSome c) := by
  refine ⟨fun W tk => PO.imp (po_some (h.pe W tk)) fun σ H Q ⟨m, env, st, S, R, hp⟩ => ?_⟩
  unfold pSome at hp
  rw [Rs.post_bind] at hp
  refine ⟨m, env, st, S, R, Rs.post_mono hp (fun w st1 q v H1 m1 f1 S1 r1 => ?_) fun _ _ q => q⟩
  split at q
  · cases r1
    exact ⟨_, rfl, q H1 m1 f1 S1⟩
  · exact q.elim
def cutD {α : Type} (xs : List α) (lo hi : Option Int) : List α := (xs.drop (HT.sIx xs.length 0 lo)).take (HT.sIx xs.length xs.length hi - HT.sIx xs.length 0 lo)
def slD (lo hi : Option Int) : PyData → Option PyData
  | .list xs => some (.list (cutD xs lo hi))
  | .tuple xs => some (.tuple (cutD xs lo hi))
  | .str z => if z.length ≤ 1000000 then some (.str (cutS z lo hi)) else none
  | _ => none
theorem cut_whole {α : Type} {xs : List α} {lo hi : Option Int} (h : HT.sIx xs.length 0 lo = 0 ∧ HT.sIx xs.length xs.length hi = xs.length) : cutD xs lo hi = xs := by
  unfold cutD
  rw [h.1, h.2]
  simp
theorem RpA.cut {K : Frg} {H : Hp} {Z : Addr → Prop} {vs : List V} {ds : List PyData} (h : RpA K H Z vs ds) (lo hi : Option Int) : RpA K H Z (cutV vs lo hi) (cutD ds lo hi) := by
  unfold cutV cutD
  rw [h.len]
  exact (h.drop _).take _
/-- a slice of a list, whoever holds it -/
def rSlice (K : Frg) : V → Option Int → Option Int → Hp → VK → Prop := fun x lo hi H Q => ∃ Z d r, (∀ a, H a = none → Z a) ∧ RT K H Z x d ∧ slD lo hi d = some r ∧ rOut K H Z r Q
theorem o_slice : SlR X (rSlice X.K) := by
  intro pins s σ H x v vl vu lo hi sl Q I rx hs pl pu ⟨Z, d, r, hz, hd, hf, ho⟩
  unfold slD at hf
  split at hf
  · cases hf
    obtain ⟨a, vs, rfl, h1, h2⟩ := hd.lst
    exact sl_list pins s σ H _ v vl vu lo hi sl Q I rx hs pl pu ⟨a, vs, rfl, h1.sq, rout_lst hz ho (h2.cut lo hi)⟩
  · cases hf
    obtain ⟨a, vs, rfl, h1, h2⟩ := hd.tupT
    refine sl_tupA pins s σ H _ v vl vu lo hi sl Q I rx hs pl pu ⟨a, vs, rfl, h1.sq, fun e => ?_, fun _ => rout_tup ho (h2.cut lo hi)⟩
    rw [cut_whole (by rw [← h2.len]; exact e)] at ho
    exact rout_here ho (.tup h1 h2)
  · split at hf
    · rename_i h
      cases hf
      exact sl_str pins s σ H x v vl vu lo hi sl Q I rx hs pl pu ⟨_, hd.str, Nat.le_trans h line_lim, rout_here ho (.str _)⟩
    · cases hf
  · cases hf
def eSlice (c : En → Sto → Rs Wv) (l h : En → Sto → Rs (Option Int)) : En → Sto → Rs Wv := fun env st => (c env st).bind fun w st1 => (l env st1).bind fun lo st2 => (h env st2).bind fun hi st3 => look1 w st3 fun d => ret1 (slD lo hi d) st3
theorem de_slice {a : Expr} {lo hi : Option Expr} {c : En → Sto → Rs Wv} {l h : En → Sto → Rs (Option Int)} {p2 pos : Pos} (ha : DE X a c) (hl : DO X lo l) (hh : DO X hi h) : DE X (.Subscript a (.Slice lo hi none p2) pos) (eSlice c l h) := by
  refine ⟨fun W tk => PE.imp (pe_slice o_slice (ha.pe W tk) (hl.po W tk) (hh.po W tk)) fun σ H Q ⟨m, env, st, S, R, hp⟩ => ?_⟩
  unfold eSlice at hp
  rw [Rs.post_bind] at hp
  refine ⟨m, env, st, S, R, Rs.post_mono hp (fun w st1 q v H1 m1 f1 S1 r1 => ?_) fun _ _ q => q⟩
  rw [Rs.post_bind] at q
  refine ⟨m1, env, st1, S1, R.mv f1, Rs.post_mono q (fun i st2 q H2 m2 f2 S2 => ?_) fun _ _ q => okX.tr f1 q⟩
  rw [Rs.post_bind] at q
  refine ⟨m2, env, st2, S2, (R.mv f1).mv f2, Rs.post_mono q (fun j st3 q H3 m3 f3 S3 => ?_) fun _ _ q => okX.tr (f1.trans f2) q⟩
  obtain ⟨d, e1, q⟩ := look1_post q
  obtain ⟨r, e2, q⟩ := ret1_post q
  exact ⟨_, d, r, fun a => S3.fresh, look_rt S3 ((r1.mv f2).mv f3) e1, e2, okE.out ((f1.trans f2).trans f3) S3 q⟩
/-! ## built-ins by their names -/
theorem de_callB {a : Expr} {as : List Expr} {cs : En → Sto → Rs (List Wv)} {x : Str} {id : String} {f : List PyData → Option PyData} {M : Md} {B : Tb} {k : Nat} {p pos : Pos} (c : Cxt M X B k) (hc : CallR X (.builtin id) (rN X.K f)) (j : Nat) (hg : B.gs[j]? = some x) (hm : M.mg x = none)
    (hv : bootBuiltins x = some (.builtin id)) (ha : DA X (a :: as) cs) (hn : x ≠ "__name__" := by decide) (hdb : (x == ("__debug__" : Str)) = false := by decide)
    (he : starEach (a :: as) X.env = (false, eval a X.env) :: starEach as X.env := by rfl) (hpl : (backTo pos (starEach as X.env)).any (·.1) = false := by rfl) : DE X (.Call (.Name x p) (a :: as) [] pos) (eOpN f cs) :=
  ⟨fun W tk => PE.imp (pe_callB hc (c.gl j x hg) (by rw [c.mg]; exact hm) hv (ha.pa W tk) hn hdb he hpl) fun σ H Q => te_all f⟩
theorem de_callT {a : Expr} {as : List Expr} {cs : En → Sto → Rs (List Wv)} {x : Str} {T : String} {f : List PyData → Option PyData} {M : Md} {B : Tb} {k : Nat} {p pos : Pos} (c : Cxt M X B k) (hc : CallR X (.type T) (rN X.K f)) (j : Nat) (hg : B.gs[j]? = some x) (hm : M.mg x = none)
    (hv : bootBuiltins x = some (.type T)) (ha : DA X (a :: as) cs) (hn : x ≠ "__name__" := by decide) (hdb : (x == ("__debug__" : Str)) = false := by decide)
    (he : starEach (a :: as) X.env = (false, eval a X.env) :: starEach as X.env := by rfl) (hpl : (backTo pos (starEach as X.env)).any (·.1) = false := by rfl) : DE X (.Call (.Name x p) (a :: as) [] pos) (eOpN f cs) :=
  ⟨fun W tk => PE.imp (pe_callTy hc (c.gl j x hg) (by rw [c.mg]; exact hm) hv (ha.pa W tk) hn hdb he hpl) fun σ H Q => te_all f⟩
theorem rts1 {K : Frg} {H : Hp} {Z : Addr → Prop} {vs : List V} {d : PyData} (h : RTs K H Z vs [d]) : ∃ v, vs = [v] ∧ RT K H Z v d := by
  cases h with | cons h1 h2 => cases h2; exact ⟨_, rfl, h1⟩
theorem rts2 {K : Frg} {H : Hp} {Z : Addr → Prop} {vs : List V} {d e : PyData} (h : RTs K H Z vs [d, e]) : ∃ v w, vs = [v, w] ∧ RT K H Z v d ∧ RT K H Z w e := by
  cases h with | cons h1 h2 => cases h2 with | cons h3 h4 => cases h4; exact ⟨_, _, rfl, h1, h3⟩
theorem RpT.len {K : Frg} {H : Hp} {Z : Addr → Prop} : ∀ {ks : List (List Key × V)} {es : List (PyData × PyData)}, RpT K H Z ks es → ks.length = es.length
  | [], [], _ => rfl
  | _ :: _, _ :: _, .cons _ _ h => by simp [RpT.len h]
def lenD : PyData → Option PyData
  | .list xs => some (.int xs.length)
  | .tuple xs => some (.int xs.length)
  | .dict es => some (.int es.length)
  | .str z => if z.length ≤ 1000000 then some (.int z.length) else none
  | _ => none
def lenF : List PyData → Option PyData
  | [d] => lenD d
  | _ => none
theorem RpK.len {K : Frg} {H : Hp} {Z : Addr → Prop} : ∀ {ks : List (Key × V)} {es : List (PyData × PyData)}, RpK K H Z ks es → ks.length = es.length
  | [], [], _ => rfl
  | _ :: _, _ :: _, .cons _ _ h => by simp [RpK.len h]
theorem c_len : CallR X (.builtin "len") (rN X.K lenF) := by
  intro pins s σ H xs us Q I r ⟨Z, ds, e, hz, hd, hf, ho⟩
  unfold lenF at hf
  split at hf
  · obtain ⟨v, rfl, h⟩ := rts1 hd
    unfold lenD at hf
    split at hf
    · cases hf
      obtain ⟨a, vs, rfl, h1, h2⟩ := h.lst
      exact call_len_seq pins s σ H _ us Q I r ⟨a, vs, rfl, .inl h1.sq, by rw [h2.len]; exact rout_here ho (.int _)⟩
    · cases hf
      obtain ⟨a, vs, rfl, h1, h2⟩ := h.tup
      exact call_len_seq pins s σ H _ us Q I r ⟨a, vs, rfl, .inr h1, by rw [h2.len]; exact rout_here ho (.int _)⟩
    · cases hf
      obtain ⟨a, rfl, h1⟩ := h.dic
      obtain ⟨u, rfl, r1⟩ := Vals.one r
      cases r1
      rcases h1 with ⟨ks, h1, h2⟩ | ⟨ks, h1, h2⟩
      · exact d_len I h1 fun t s1 I1 => ⟨.int ks.length, H, I1, ⟨t, rfl⟩, by rw [h2.len]; exact rout_here ho (.int _)⟩
      · obtain ⟨z, hsm, xs, rel, dd⟩ := dt_rd I.hok h1
        refine call_len_dictH hsm dd (by rw [← Paired.length rel]; rw [sizeLine_eq] at z; omega) ?_
        exact ⟨.int xs.length, H, I.tok _, ⟨_, rfl⟩, by rw [← Paired.length rel, h2.len]; exact rout_here ho (.int _)⟩
    · split at hf
      · rename_i hl
        cases hf
        have e1 := h.str
        subst e1
        exact call_len_str pins s σ H _ us Q I r ⟨_, rfl, Nat.le_trans hl line_lim, rout_here ho (.int _)⟩
      · cases hf
    · cases hf
  · cases hf
end
end
section
variable [Wtp] [Tbl]
section
variable {X : Cx} {pins : List (Addr × Obj)} {σ : L2.St} {H : Hp} {s : Shared}
/-- what a sequence holds -/
def seqOf : PyData → Option (List PyData)
  | .list xs => some xs
  | .tuple xs => some xs
  | _ => none
def intsOf : List PyData → Option (List Int)
  | [] => some []
  | .int i :: r => (intsOf r).map (i :: ·)
  | _ :: _ => none
def boolsOf : List PyData → Option (List Bool)
  | [] => some []
  | .bool b :: r => (boolsOf r).map (b :: ·)
  | _ :: _ => none
theorem intsOf_map (ns : List Int) : intsOf (ns.map .int) = some ns := by
  induction ns with
  | nil => rfl
  | cons n r ih => rw [List.map_cons, intsOf, ih]; rfl
theorem intsOf_eq : ∀ {xs : List PyData} {ns : List Int}, intsOf xs = some ns → xs = ns.map .int
  | [], ns, h => by cases h; rfl
  | .int i :: r, ns, h => by
    rw [intsOf] at h
    cases q : intsOf r with
    | none => rw [q] at h; cases h
    | some l => rw [q] at h; cases h; rw [List.map_cons, ← intsOf_eq q]
  | .none :: r, ns, h => by cases h
  | .bool _ :: r, ns, h => by cases h
  | .str _ :: r, ns, h => by cases h
  | .list _ :: r, ns, h => by cases h
  | .tuple _ :: r, ns, h => by cases h
  | .dict _ :: r, ns, h => by cases h
theorem boolsOf_map (ns : List Bool) : boolsOf (ns.map .bool) = some ns := by
  induction ns with
  | nil => rfl
  | cons n r ih => rw [List.map_cons, boolsOf, ih]; rfl
theorem boolsOf_eq : ∀ {xs : List PyData} {ns : List Bool}, boolsOf xs = some ns → xs = ns.map .bool
  | [], ns, h => by cases h; rfl
  | .bool i :: r, ns, h => by
    rw [boolsOf] at h
    cases q : boolsOf r with
    | none => rw [q] at h; cases h
    | some l => rw [q] at h; cases h; rw [List.map_cons, ← boolsOf_eq q]
  | .none :: r, ns, h => by cases h
  | .int _ :: r, ns, h => by cases h
  | .str _ :: r, ns, h => by cases h
  | .list _ :: r, ns, h => by cases h
  | .tuple _ :: r, ns, h => by cases h
  | .dict _ :: r, ns, h => by cases h
theorem RpA.ints {K : Frg} {Z : Addr → Prop} : ∀ {vs : List V} {ns : List Int}, RpA K H Z vs (ns.map .int) → vs = ns.map V.int
  | [], [], _ => rfl
  | _ :: _, _ :: _, .cons h1 h2 => by cases h1; rw [List.map_cons, ← RpA.ints h2]
theorem RpA.bools {K : Frg} {Z : Addr → Prop} : ∀ {vs : List V} {ns : List Bool}, RpA K H Z vs (ns.map .bool) → vs = ns.map V.bl
  | [], [], _ => rfl
  | _ :: _, _ :: _, .cons h1 h2 => by cases h1; rw [List.map_cons, ← RpA.bools h2]
/-! ### abs, sum, any, all -/
def sumF : List PyData → Option PyData
  | [d] => match seqOf d with
    | some xs => (intsOf xs).map fun ns => .int ns.sum
    | none => none
  | _ => none
theorem preSum_ints {xs : Array (Int × Tok)} {ns : List Int} {us : List Value} (e : us.toArray = intItems xs) (hi : IntsAre us ns) : preSum (numAt xs) xs.size = ns.sum := by
  have hn : numsOf (intItems xs).toList = ns := by rw [← e]; exact hi.numsOf
  rw [nums_intItems] at hn
  rw [preSum_eq, List.take_of_length_le (by simp), hn]
theorem c_sum (hc : X.calm = true) : CallR X (.builtin "sum") (rN X.K sumF) := by
  intro pins s σ H xs us Q I r ⟨Z, ds, e, hz, hd, hf, ho⟩
  unfold sumF at hf
  split at hf
  · obtain ⟨v, rfl, h⟩ := rts1 hd
    split at hf
    · rename_i xs q
      cases q2 : intsOf xs with
      | none => rw [q2] at hf; cases hf
      | some ns =>
        rw [q2] at hf
        cases hf
        have e1 := intsOf_eq q2
        subst e1
        unfold seqOf at q
        split at q
        · cases q
          obtain ⟨a, vs, rfl, h1, h2⟩ := h.lst
          rw [h2.ints] at h1
          exact cr_sum hc pins s σ H _ us Q I r ⟨a, ns, rfl, h1.sq, rout_here ho (.int _)⟩
        · cases q
          obtain ⟨a, vs, rfl, h1, h2⟩ := h.tup
          rw [h2.ints] at h1
          obtain ⟨u, rfl, r1⟩ := Vals.one r
          cases r1
          obtain ⟨its, rv, ht, _⟩ := I.tuple h1
          have hi := rv.ints
          obtain ⟨ys, e2⟩ := hi.allInts.items
          have e3 := preSum_ints e2 hi
          rw [e2] at ht
          refine PySem.W.ktm_sumG (I.ok.hd hc) ht fun h' tk t' hk => ?_
          rw [e3]
          exact ⟨.int ns.sum, H, I.kept (t' := tk) hk, ⟨t', rfl⟩, rout_here ho (.int _)⟩
        · cases q
    · cases hf
  · cases hf
def allF : List PyData → Option PyData
  | [.list xs] => (boolsOf xs).map fun bs => .bool (bs.all id)
  | _ => none
theorem c_all (hc : X.calm = true) : CallR X (.builtin "all") (rN X.K allF) := by
  intro pins s σ H xs us Q I r ⟨Z, ds, e, hz, hd, hf, ho⟩
  unfold allF at hf
  split at hf
  · rename_i xs
    obtain ⟨v, rfl, h⟩ := rts1 hd
    cases q2 : boolsOf xs with
    | none => rw [q2] at hf; cases hf
    | some ns =>
      rw [q2] at hf
      cases hf
      have e1 := boolsOf_eq q2
      subst e1
      obtain ⟨a, vs, rfl, h1, h2⟩ := h.lst
      rw [h2.bools] at h1
      exact cr_all hc pins s σ H _ us Q I r ⟨a, ns, rfl, h1.sq, rout_here ho (.bl _)⟩
  · cases hf
/-! ### tuple, list, int -/
def tupF : List PyData → Option PyData
  | [d] => (seqOf d).map .tuple
  | _ => none
def lstF : List PyData → Option PyData
  | [d] => (seqOf d).map .list
  | _ => none
def intF : List PyData → Option PyData
  | [.int i] => some (.int i)
  | [.bool b] => some (.int (if b then 1 else 0))
  | _ => none
theorem c_tup : CallR X (.type "tuple") (rN X.K tupF) := by
  intro pins s σ H xs us Q I r ⟨Z, ds, e, hz, hd, hf, ho⟩
  unfold tupF at hf
  split at hf
  · obtain ⟨v, rfl, h⟩ := rts1 hd
    unfold seqOf at hf
    split at hf
    · cases hf
      obtain ⟨a, vs, rfl, h1, h2⟩ := h.lst
      exact call_tuple_of pins s σ H _ us Q I r ⟨a, vs, rfl, .inl ⟨h1.sq, rout_tup ho h2⟩⟩
    · cases hf
      obtain ⟨a, vs, rfl, h1, h2⟩ := h.tupT
      exact call_tuple_of pins s σ H _ us Q I r ⟨a, vs, rfl, .inr ⟨h1.sq, rout_here ho (.tup h1 h2)⟩⟩
    · cases hf
  · cases hf
theorem c_lst : CallR X (.type "list") (rN X.K lstF) := by
  intro pins s σ H xs us Q I r ⟨Z, ds, e, hz, hd, hf, ho⟩
  unfold lstF at hf
  split at hf
  · obtain ⟨v, rfl, h⟩ := rts1 hd
    unfold seqOf at hf
    split at hf
    · cases hf
      obtain ⟨a, vs, rfl, h1, h2⟩ := h.lst
      exact call_list_of pins s σ H _ us Q I r ⟨a, vs, rfl, .inl h1.sq, rout_lst hz ho h2⟩
    · cases hf
      obtain ⟨a, vs, rfl, h1, h2⟩ := h.tup
      exact call_list_of pins s σ H _ us Q I r ⟨a, vs, rfl, .inr h1, rout_lst hz ho h2⟩
    · cases hf
  · cases hf
theorem c_int : CallR X (.type "int") (rN X.K intF) := by
  intro pins s σ H xs us Q I r ⟨Z, ds, e, hz, hd, hf, ho⟩
  unfold intF at hf
  split at hf
  · cases hf
    obtain ⟨v, rfl, h⟩ := rts1 hd
    rw [h.int] at r
    exact call_int1 pins s σ H _ us Q I r (.inl ⟨_, rfl, rout_here ho (.int _)⟩)
  · cases hf
    obtain ⟨v, rfl, h⟩ := rts1 hd
    rw [h.bl] at r
    exact call_int1 pins s σ H _ us Q I r (.inr ⟨_, rfl, rout_here ho (.int _)⟩)
  · cases hf
/-! ### isinstance of a built-in class -/
def isaD (T : String) (d : PyData) : Option PyData := match T with
  | "int" => some (.bool d.isInt)
  | "bool" => some (.bool d.isBool)
  | "str" => some (.bool d.isStr)
  | "tuple" => some (.bool d.isTuple)
  | "list" => some (.bool d.isList)
  | "dict" => some (.bool d.isDict)
  | _ => none
def rIsa (K : Frg) (T : String) : List V → Hp → VK → Prop := fun vs H Q => ∃ Z v d r, vs = [v, .ty T] ∧ RT K H Z v d ∧ isaD T d = some r ∧ rOut K H Z r Q
theorem c_isa {T : String} : CallR X (.builtin "isinstance") (rIsa X.K T) := by
  intro pins s σ H xs us Q I r h
  obtain ⟨Z, v, d, e, rfl, hd, hf, ho⟩ := h
  obtain ⟨u, t, rfl, r1, r2⟩ := Vals.two r
  cases r2
  obtain ⟨as, q⟩ := Inv.rt I hd r1
  have fin : ∀ (b : Bool), e = .bool b → ∀ tk, EP X pins σ Q (.bool b) { s with toks := tk } := fun b eb tk => ⟨.bl b, H, I.tok tk, rfl, rout_here ho (by rw [eb]; exact .bl b)⟩
  unfold isaD at hf
  split at hf
  · cases hf; exact PySem.W.isinstance_int_data q fun tk _ => fin _ rfl tk
  · cases hf; exact PySem.W.isinstance_bool_data q fun tk _ => fin _ rfl tk
  · cases hf; exact PySem.W.isinstance_str_data q fun tk _ => fin _ rfl tk
  · cases hf; exact PySem.W.isinstance_tuple_data q fun tk _ => fin _ rfl tk
  · cases hf; exact PySem.W.isinstance_list_data q fun tk _ => fin _ rfl tk
  · cases hf; exact PySem.W.isinstance_dict_data q fun tk _ => fin _ rfl tk
  · cases hf
theorem de_isa {M : Md} {B : Tb} {k : Nat} {a : Expr} {ca : En → Sto → Rs Wv} {x : Str} {T : String} {p p2 pos : Pos} (c : Cxt M X B k) (j j2 : Nat) (hg : B.gs[j]? = some ("isinstance" : Str)) (hm : M.mg "isinstance" = none) (hg2 : B.gs[j2]? = some x) (hm2 : M.mg x = none)
    (hv : bootBuiltins x = some (.type T)) (ha : DE X a ca) (hn : x ≠ "__name__" := by decide) (hdb : (x == ("__debug__" : Str)) = false := by decide)
    (he : starEach [a, .Name x p2] X.env = (false, eval a X.env) :: starEach [.Name x p2] X.env := by rfl) : DE X (.Call (.Name "isinstance" p) [a, .Name x p2] [] pos) (eOp1 (isaD T) ca) := by
  refine ⟨fun W tk => PE.imp (pe_callB (c_isa (T := T)) (c.gl j _ hg) (by rw [c.mg]; exact hm) (by decide +kernel) (pa_cons (ha.pe W tk) (pa_cons (pe_bltn (v := .ty T) (c.gl j2 _ hg2) (by rw [c.mg]; exact hm2) hv rfl hn hdb) pa_nil) he) (by decide) (by decide) he) fun σ H Q h => ?_⟩
  obtain ⟨m, env, st, S, R, hp⟩ := h
  unfold eOp1 at hp
  rw [Rs.post_bind] at hp
  refine ⟨m, env, st, S, R, Rs.post_mono hp (fun w st1 q v H1 m1 f1 S1 r1 => ?_) fun _ _ q => q⟩
  obtain ⟨d, e1, q⟩ := look1_post q
  obtain ⟨r, e3, q⟩ := ret1_post q
  exact ⟨_, v, d, r, rfl, look_rt S1 r1 e1, e3, okE.out f1 S1 q⟩
/-! ### repr -/
end
end
section
variable [Wtp] [Tbl]
/-! ## statements -/
inductive Rt where
  | w (x : Wv)
  | f (x : Wv)
  | ft (xs : List Wv)
inductive SR where
  | nx (env : En) (st : Sto)
  | rt (p : Rt) (st : Sto)
  | ex (e : Xc) (st : Sto)
  | no
namespace SR
def post (x : SR) (N : En → Sto → Prop) (R : Rt → Sto → Prop) (W : Xc → Sto → Prop) : Prop := match x with
  | .nx env st => N env st
  | .rt p st => R p st
  | .ex e st => W e st
  | .no => False
@[simp] theorem post_nx (env : En) (st : Sto) (N : En → Sto → Prop) (R : Rt → Sto → Prop) (W : Xc → Sto → Prop) : (SR.nx env st).post N R W = N env st := rfl
@[simp] theorem post_rt (p : Rt) (st : Sto) (N : En → Sto → Prop) (R : Rt → Sto → Prop) (W : Xc → Sto → Prop) : (SR.rt p st).post N R W = R p st := rfl
@[simp] theorem post_ex (p : Xc) (st : Sto) (N : En → Sto → Prop) (R : Rt → Sto → Prop) (W : Xc → Sto → Prop) : (SR.ex p st).post N R W = W p st := rfl
@[simp] theorem post_no (N : En → Sto → Prop) (R : Rt → Sto → Prop) (W : Xc → Sto → Prop) : SR.no.post N R W = False := rfl
theorem post_mono {x : SR} {N N' : En → Sto → Prop} {R R' : Rt → Sto → Prop} {W W' : Xc → Sto → Prop} (h : x.post N R W) (h1 : ∀ a st, N a st → N' a st) (h2 : ∀ a st, R a st → R' a st) (h3 : ∀ a st, W a st → W' a st) : x.post N' R' W' := by
  cases x with
  | nx a st => exact h1 a st h
  | rt a st => exact h2 a st h
  | ex a st => exact h3 a st h
  | no => exact h
/-- what follows -/
def seq (x : SR) (f : En → Sto → SR) : SR := match x with
  | .nx env st => f env st
  | .rt p st => .rt p st
  | .ex e st => .ex e st
  | .no => .no
@[simp] theorem seq_nx (env : En) (st : Sto) (f : En → Sto → SR) : (SR.nx env st).seq f = f env st := rfl
@[simp] theorem seq_rt (p : Rt) (st : Sto) (f : En → Sto → SR) : (SR.rt p st).seq f = .rt p st := rfl
@[simp] theorem seq_ex (p : Xc) (st : Sto) (f : En → Sto → SR) : (SR.ex p st).seq f = .ex p st := rfl
@[simp] theorem seq_no (f : En → Sto → SR) : SR.no.seq f = .no := rfl
theorem post_seq (x : SR) (f : En → Sto → SR) (N : En → Sto → Prop) (R : Rt → Sto → Prop) (W : Xc → Sto → Prop) : (x.seq f).post N R W = x.post (fun env st => (f env st).post N R W) R W := by cases x <;> rfl
end SR
/-- a value, then a statement's end -/
def Rs.sb {α : Type} (x : Rs α) (f : α → Sto → SR) : SR := match x with
  | .ok a st => f a st
  | .ex e st => .ex e st
  | .no => .no
@[simp] theorem Rs.sb_ok {α : Type} (a : α) (st : Sto) (f : α → Sto → SR) : (Rs.ok a st).sb f = f a st := rfl
@[simp] theorem Rs.sb_ex {α : Type} (e : Xc) (st : Sto) (f : α → Sto → SR) : (Rs.ex e st : Rs α).sb f = .ex e st := rfl
@[simp] theorem Rs.sb_no {α : Type} (f : α → Sto → SR) : (Rs.no : Rs α).sb f = .no := rfl
theorem Rs.post_sb {α : Type} (x : Rs α) (f : α → Sto → SR) (N : En → Sto → Prop) (R : Rt → Sto → Prop) (W : Xc → Sto → Prop) : (x.sb f).post N R W = x.post (fun a st => (f a st).post N R W) W := by cases x <;> rfl
def RtR (K : Frg) (H : Hp) (m : Mp) (n : Nat) (v : V) : Rt → Prop
  | .w x => RW K H m n v x
  | .f x => RW K H m n v x
  | .ft xs => ∃ a vs, v = .ref a ∧ H a = some (.tup vs) ∧ RWs K H m n vs xs
def okN (X : Cx) (m : Mp) (n : Nat) (H : Hp) (D : Ends) : En → Sto → Prop := fun env st' => ∀ σ' H' m', Fol m n H m' st'.length H' → Sim X.K H' m' st' → EnvR X.K H' m' st'.length env σ' → D.nx σ' H'
def okR (X : Cx) (m : Mp) (n : Nat) (H : Hp) (D : Ends) : Rt → Sto → Prop := fun p st' => ∀ v H' m', Fol m n H m' st'.length H' → Sim X.K H' m' st' → RtR X.K H' m' st'.length v p → D.rt v H'
def okXs (X : Cx) (W : WX) (m : Mp) (n : Nat) (H : Hp) : Xc → Sto → Prop := fun e st' => ∀ c d σ' H' m', Fol m n H m' st'.length H' → Sim X.K H' m' st' → ExR X.K X.mg H' m' st'.length e c d → W c d σ' H'
def tS (X : Cx) (W : WX) (c : En → Sto → SR) : TS := fun D σ H => ∃ m env st, Sim X.K H m st ∧ EnvR X.K H m st.length env σ ∧ (c env st).post (okN X m st.length H D) (okR X m st.length H D) (okXs X W m st.length H)
structure DS (X : Cx) (e : Stmt) (c : En → Sto → SR) : Prop where
  ps : ∀ W, Takes X W → PS X e (tS X W c)
structure DB (X : Cx) (es : List Stmt) (c : En → Sto → SR) : Prop where
  pss : ∀ W, Takes X W → PSs X es (tS X W c)
def sNil : En → Sto → SR := fun env st => .nx env st
def sSeq (a b : En → Sto → SR) : En → Sto → SR := fun env st => (a env st).seq b
def sSet (i : Nat) (c : En → Sto → Rs Wv) : En → Sto → SR := fun env st => (c env st).sb fun w st1 => .nx (env.set i (some w)) st1
def sRet (c : En → Sto → Rs Wv) : En → Sto → SR := fun env st => (c env st).sb fun w st1 => .rt (.w w) st1
def sRetF (c : En → Sto → Rs Wv) : En → Sto → SR := fun env st => (c env st).sb fun w st1 => .rt (.f w) st1
def sRetT (c : En → Sto → Rs (List Wv)) : En → Sto → SR := fun env st => (c env st).sb fun ws st1 => if ws.length ≤ 1000 then .rt (.ft ws) st1 else .no
def sRetN : En → Sto → SR := fun env st => .rt (.w (.d .none)) st
def sExp (c : En → Sto → Rs Wv) : En → Sto → SR := fun env st => (c env st).sb fun _ st1 => .nx env st1
def sIf (t : En → Sto → Rs Bool) (a b : En → Sto → SR) : En → Sto → SR := fun env st => (t env st).sb fun x st1 => if x then a env st1 else b env st1
def sNo : En → Sto → SR := fun _ _ => .no
section
variable {M : Md} {X : Cx} {B : Tb} {k : Nat} {pins : List (Addr × Obj)} {σ : L2.St} {H : Hp} {s : Shared} {m : Mp} {env : En} {st : Sto} {W : WX} {D : Ends} {pos : Pos}
theorem PS.imp {e : Stmt} {t t' : TS} (h : PS X e t) (q : ∀ D σ H, t' D σ H → t D σ H) : PS X e t' := ⟨fun pins s σ H D I x => h.run pins s σ H D I (q D σ H x)⟩
theorem PSs.imp {e : List Stmt} {t t' : TS} (h : PSs X e t) (q : ∀ D σ H, t' D σ H → t D σ H) : PSs X e t' := ⟨fun pins s σ H D I x => h.run pins s σ H D I (q D σ H x)⟩
theorem okXs.x {n : Nat} {e : Xc} {st' : Sto} (h : okXs X W m n H e st') : okX X W m n H σ e st' := fun c d H' m' f S r => h c d σ H' m' f S r
theorem okXs.tr {m1 : Mp} {n n1 : Nat} {H1 : Hp} {e : Xc} {st' : Sto} (f : Fol m n H m1 n1 H1) (h : okXs X W m n H e st') : okXs X W m1 n1 H1 e st' := fun c d σ' H' m' f' S' r => h c d σ' H' m' (f.trans f') S' r
theorem okN.tr {m1 : Mp} {n n1 : Nat} {H1 : Hp} {e : En} {st' : Sto} (f : Fol m n H m1 n1 H1) (h : okN X m n H D e st') : okN X m1 n1 H1 D e st' := fun σ' H' m' f' S' r => h σ' H' m' (f.trans f') S' r
theorem okR.tr {m1 : Mp} {n n1 : Nat} {H1 : Hp} {e : Rt} {st' : Sto} (f : Fol m n H m1 n1 H1) (h : okR X m n H D e st') : okR X m1 n1 H1 D e st' := fun v H' m' f' S' r => h v H' m' (f.trans f') S' r
/-- a value, then the statement -/
theorem te_sb {c : En → Sto → Rs Wv} {f : En → Wv → Sto → SR} {Q : VK} (S : Sim X.K H m st) (R : EnvR X.K H m st.length env σ) (hp : ((c env st).sb (f env)).post (okN X m st.length H D) (okR X m st.length H D) (okXs X W m st.length H))
    (q : ∀ w st1 v H1 m1, Fol m st.length H m1 st1.length H1 → Sim X.K H1 m1 st1 → EnvR X.K H1 m1 st1.length env σ → RW X.K H1 m1 st1.length v w → (f env w st1).post (okN X m st.length H D) (okR X m st.length H D) (okXs X W m st.length H) → Q v H1) : tE X W c σ H Q := by
  rw [Rs.post_sb] at hp
  exact ⟨m, env, st, S, R, Rs.post_mono hp (fun w st1 h v H1 m1 f1 S1 r1 => q w st1 v H1 m1 f1 S1 (R.mv f1) r1 h) fun _ _ h => h.x⟩
theorem db_nil : DB X [] sNil := ⟨fun W tk => PSs.imp pss_nil fun D σ H ⟨m, env, st, S, R, hp⟩ => hp σ H m .refl S R⟩
theorem db_cons {e : Stmt} {es : List Stmt} {a b : En → Sto → SR} (h1 : DS X e a) (h2 : DB X es b) : DB X (e :: es) (sSeq a b) := by
  refine ⟨fun W tk => PSs.imp (pss_cons (h1.ps W tk) (h2.pss W tk)) fun D σ H ⟨m, env, st, S, R, hp⟩ => ?_⟩
  unfold sSeq at hp
  rw [SR.post_seq] at hp
  exact ⟨m, env, st, S, R, SR.post_mono hp (fun env1 st1 q σ1 H1 m1 f1 S1 R1 => ⟨m1, env1, st1, S1, R1, SR.post_mono q (fun _ _ q => okN.tr f1 q) (fun _ _ q => okR.tr f1 q) fun _ _ q => okXs.tr f1 q⟩) (fun _ _ q => q) fun _ _ q => q⟩
theorem db_one {e : Stmt} {a : En → Sto → SR} (h1 : DS X e a) : DB X [e] a := ⟨fun W tk => pss_one (h1.ps W tk)⟩
theorem ds_set (c : Cxt M X B k) (i : Nat) {x : Str} {e : Expr} {ce : En → Sto → Rs Wv} {pos' : Pos} (hi : B.N[i]? = some x) (hl : i ∈ B.ls) (he : DE X e ce) (hs : swapsWith e (some (.Name x pos')) pos.line X.env = pure false := by rfl) : DS X (.Assign [.Name x pos'] e pos) (sSet i ce) := by
  obtain ⟨l1, l2⟩ := c.loc i hl x hi
  refine ⟨fun W tk => PS.imp (ps_set (by rw [c.hN]; exact c.nd) (by rw [c.hN]; exact hi) l1 (he.pe W tk) hs l2) fun D σ H ⟨m, env, st, S, R, hp⟩ => ?_⟩
  exact te_sb (f := fun env w st1 => .nx (env.set i (some w)) st1) S R hp fun w st1 v H1 m1 f1 S1 R1 r1 q => q _ H1 m1 f1 S1 (R1.set i r1)
theorem ds_ret {e : Expr} {ce : En → Sto → Rs Wv} (he : DE X e ce) : DS X (.Return (some e) pos) (sRet ce) := by
  refine ⟨fun W tk => PS.imp (ps_ret (he.pe W tk)) fun D σ H ⟨m, env, st, S, R, hp⟩ => ?_⟩
  exact te_sb (f := fun env w st1 => .rt (.w w) st1) S R hp fun w st1 v H1 m1 f1 S1 R1 r1 q => q v H1 m1 f1 S1 r1
theorem ds_exp {e : Expr} {ce : En → Sto → Rs Wv} (he : DE X e ce) (hs : swapsWith e none pos.line X.env = pure false := by rfl) : DS X (.Expr e pos) (sExp ce) := by
  refine ⟨fun W tk => PS.imp (ps_expr (he.pe W tk) hs) fun D σ H ⟨m, env, st, S, R, hp⟩ => ?_⟩
  exact te_sb (f := fun env w st1 => .nx env st1) S R hp fun w st1 v H1 m1 f1 S1 R1 r1 q => q σ H1 m1 f1 S1 R1
theorem ds_if {t : Expr} {a b : List Stmt} {ct : En → Sto → Rs Bool} {ca cb : En → Sto → SR} (ht : DT X t ct) (ha : DB X a ca) (hb : DB X b cb) : DS X (.If t a b pos) (sIf ct ca cb) := by
  refine ⟨fun W tk => PS.imp (ps_if (ht.pt W tk) (ha.pss W tk) (hb.pss W tk)) fun D σ H ⟨m, env, st, S, R, hp⟩ => ?_⟩
  unfold sIf at hp
  rw [Rs.post_sb] at hp
  refine ⟨m, env, st, S, R, Rs.post_mono hp (fun x st1 q H1 m1 f1 S1 => ?_) fun _ _ h => h.x⟩
  have go : ∀ {c : En → Sto → SR}, (c env st1).post (okN X m st.length H D) (okR X m st.length H D) (okXs X W m st.length H) → tS X W c D σ H1 := fun q =>
    ⟨m1, env, st1, S1, R.mv f1, SR.post_mono q (fun _ _ q => okN.tr f1 q) (fun _ _ q => okR.tr f1 q) fun _ _ q => okXs.tr f1 q⟩
  cases x with
  | true => exact go q
  | false => exact go q
/-- what is never reached -/
theorem ds_no {e : Stmt} : DS X e sNo := ⟨fun W tk => PS.imp ps_never fun D σ H ⟨m, env, st, S, R, hp⟩ => hp⟩
/-! ### targets -/
/-- σ' is σ but at the slots of S -/
def But (S : List Nat) (σ σ' : L2.St) : Prop := σ'.length = σ.length ∧ ∀ j, j ∉ S → σ'[j]? = σ[j]?
theorem But.refl {S : List Nat} {σ : L2.St} : But S σ σ := ⟨rfl, fun _ _ => rfl⟩
theorem But.set {S : List Nat} {σ : L2.St} {i : Nat} {v : Option V} (h : i ∈ S) : But S σ (σ.set i v) := ⟨by simp, fun j hj => List.getElem?_set_ne (fun e : i = j => hj (e ▸ h))⟩
theorem But.trans {S : List Nat} {σ σ1 σ2 : L2.St} (a : But S σ σ1) (b : But S σ1 σ2) : But S σ σ2 := ⟨b.1.trans a.1, fun j hj => (b.2 j hj).trans (a.2 j hj)⟩
structure DG (X : Cx) (S : List Nat) (tg : Expr) (g : Wv → En → Option En) : Prop where
  pg : PG X tg fun v σ H Q => ∃ m n env w env', RW X.K H m n v w ∧ EnvR X.K H m n env σ ∧ g w env = some env' ∧ ∀ σ', EnvR X.K H m n env' σ' → But S σ σ' → Q σ' H
structure DGs (X : Cx) (S : List Nat) (tg : List Expr) (g : List PyData → En → Option En) : Prop where
  pgs : PGs X tg fun vs σ H Q => ∃ m n env ds env', RpA X.K H (Off m n) vs ds ∧ EnvR X.K H m n env σ ∧ g ds env = some env' ∧ ∀ σ', EnvR X.K H m n env' σ' → But S σ σ' → Q σ' H
def gN (i : Nat) : Wv → En → Option En := fun w env => some (env.set i (some w))
def gTp (g : List PyData → En → Option En) : Wv → En → Option En := fun w env => match w with
  | .d (.tuple xs) => g xs env
  | _ => none
def gNl : List PyData → En → Option En := fun xs env => match xs with
  | [] => some env
  | _ => none
def gCn (g : Wv → En → Option En) (h : List PyData → En → Option En) : List PyData → En → Option En := fun xs env => match xs with
  | x :: r => (g (.d x) env).bind (h r)
  | [] => none
theorem PG.imp {e : Expr} {t t' : TG} (h : PG X e t) (q : ∀ v σ H Q, t' v σ H Q → t v σ H Q) : PG X e t' := ⟨fun pins s σ H v u Q I r x => h.run pins s σ H v u Q I r (q v σ H Q x)⟩
theorem PGs.imp {e : List Expr} {t t' : TGs} (h : PGs X e t) (q : ∀ v σ H Q, t' v σ H Q → t v σ H Q) : PGs X e t' := ⟨fun pins s σ H v u Q I r x => h.run pins s σ H v u Q I r (q v σ H Q x)⟩
theorem dg_name (c : Cxt M X B k) (S : List Nat) (i : Nat) {x : Str} (hi : B.N[i]? = some x) (hl : i ∈ B.ls) (hS : i ∈ S) : DG X S (.Name x pos) (gN i) := by
  obtain ⟨l1, l2⟩ := c.loc i hl x hi
  refine ⟨PG.imp (pg_name (by rw [c.hN]; exact c.nd) (by rw [c.hN]; exact hi) l1 l2) fun v σ H Q ⟨m, n, env, w, env', r, R, e, q⟩ => ?_⟩
  cases e
  exact q _ (R.set i r) (.set hS)
theorem dgs_nil (S : List Nat) : DGs X S [] gNl := by
  refine ⟨PGs.imp pgs_nil fun v σ H Q ⟨m, n, env, ds, env', r, R, e, q⟩ => ?_⟩
  unfold gNl at e
  split at e
  · cases e
    cases r
    exact ⟨rfl, q σ R .refl⟩
  · cases e
theorem dgs_cons {S : List Nat} {e : Expr} {es : List Expr} {g : Wv → En → Option En} {h : List PyData → En → Option En} (h1 : DG X S e g) (h2 : DGs X S es h) (hs : (assignEach (e :: es) X.env).map (·.2) = assign e X.env :: (assignEach es X.env).map (·.2) := by rfl) : DGs X S (e :: es) (gCn g h) := by
  refine ⟨PGs.imp (pgs_cons h1.pg h2.pgs hs) fun v σ H Q ⟨m, n, env, ds, env', r, R, e, q⟩ => ?_⟩
  unfold gCn at e
  split at e
  · rename_i x r'
    cases r with
    | @cons v0 vr _ _ r1 r2 =>
      cases e1 : g (.d x) env with
      | none => rw [e1] at e; cases e
      | some env1 =>
        rw [e1] at e
        exact ⟨v0, vr, rfl, m, n, env, .d x, env1, r1, R, e1, fun σ1 R1 b1 => ⟨m, n, env1, r', env', r2, R1, e, fun σ2 R2 b2 => q σ2 R2 (b1.trans b2)⟩⟩
  · cases e
/-- how many items a target asks -/
def Asks (g : List PyData → En → Option En) (n : Nat) : Prop := ∀ xs env env', g xs env = some env' → xs.length = n
theorem asks_nil : Asks gNl 0 := fun xs env env' h => by
  unfold gNl at h
  split at h
  · rfl
  · cases h
theorem asks_cons {g : Wv → En → Option En} {h : List PyData → En → Option En} {n : Nat} (a : Asks h n) : Asks (gCn g h) (n + 1) := fun xs env env' e => by
  unfold gCn at e
  split at e
  · rename_i x r
    cases e1 : g (.d x) env with
    | none => rw [e1] at e; cases e
    | some env1 => rw [e1] at e; simp [a r env1 env' e]
  · cases e
theorem dg_tup (c : Cxt M X B k) {S : List Nat} {es : List Expr} {j n : Nat} {g : List PyData → En → Option En} (h : DGs X S es g) (a : Asks g n) (hn : (assignEach es X.env).length = n := by rfl) (hst : (assignEach es X.env).findIdx? (·.1) = none := by rfl) : DG X S (.Tuple es j pos) (gTp g) := by
  refine ⟨PG.imp (pg_tup c.calm h.pgs hn hst) fun v σ H Q ⟨m, n', env, w, env', r, R, e, q⟩ => ?_⟩
  unfold gTp at e
  split at e
  · rename_i xs
    cases r with
    | tup h1 h2 => exact ⟨_, _, rfl, h1.sq, by rw [h2.len]; exact a _ _ _ e, m, n', env, xs, env', h2, R, e, q⟩
  · cases e
def sAsg (g : Wv → En → Option En) (c : En → Sto → Rs Wv) : En → Sto → SR := fun env st => (c env st).sb fun w st1 => match g w env with
  | some env' => .nx env' st1
  | none => .no
theorem ds_asg {tg e : Expr} {g : Wv → En → Option En} {ce : En → Sto → Rs Wv} {S0 : List Nat} (he : DE X e ce) (hg : DG X S0 tg g) (hs : swapsWithSole [tg] e pos.line X.env = pure false := by rfl) (hw : swappedStores [tg] e X.env = pure none := by rfl)
    (h1 : (assignEach [tg] X.env).map (·.2) = [assign tg X.env] := by rfl) : DS X (.Assign [tg] e pos) (sAsg g ce) := by
  refine ⟨fun W tk => PS.imp (ps_asg (he.pe W tk) hg.pg hs hw h1) fun D σ H ⟨m, env, st, S, R, hp⟩ => ?_⟩
  refine te_sb (f := fun env w st1 => match g w env with | some env' => .nx env' st1 | none => .no) S R hp fun w st1 v H1 m1 f1 S1 R1 r1 q => ?_
  split at q
  · exact ⟨m1, st1.length, env, w, _, r1, R1, by assumption, fun σ' R' _ => q σ' H1 m1 f1 S1 R'⟩
  · exact q.elim
/-- a, b = x, y of plain names -/
def sPar2 (i j : Nat) (c : En → Sto → Rs (List Wv)) : En → Sto → SR := fun env st => (c env st).sb fun ws st1 => match ws with
  | [v, w] => .nx ((env.set i (some v)).set j (some w)) st1
  | _ => .no
theorem ds_par2 (c : Cxt M X B k) (i j : Nat) {x y : Str} {a b : Expr} {ca : En → Sto → Rs (List Wv)} {px py pt : Pos} {kt : Nat} {k2 : Nat} {pt2 : Pos} (hi : B.N[i]? = some x) (hj : B.N[j]? = some y) (hij : i ≠ j) (hx : X.env.scope.names.lookup x = some .local) (hy : X.env.scope.names.lookup y = some .local) (ha : DA X [a, b] ca)
    (hw : swappedStores [.Tuple [.Name x px, .Name y py] kt pt] (.Tuple [a, b] k2 pt2) X.env = pure (some [x, y])) (hs : swapsWithSole [.Tuple [.Name x px, .Name y py] kt pt] (.Tuple [a, b] k2 pt2) pos.line X.env = pure false := by rfl) :
    DS X (.Assign [.Tuple [.Name x px, .Name y py] kt pt] (.Tuple [a, b] k2 pt2) pos) (sPar2 i j ca) := by
  refine ⟨fun W tk => PS.imp (ps_par c.calm (by rw [c.hN]; exact c.nd) (by rw [c.hN]; exact hi) (by rw [c.hN]; exact hj) hij hx hy (ha.pa W tk) hw hs) fun D σ H ⟨m, env, st, S, R, hp⟩ => ?_⟩
  unfold sPar2 at hp
  rw [Rs.post_sb] at hp
  refine ⟨m, env, st, S, R, Rs.post_mono hp (fun ws st1 q vs H1 m1 f1 S1 r1 => ?_) fun _ _ h => h.x⟩
  split at q
  · cases r1 with
    | cons r1 r2 =>
      cases r2 with
      | cons r2 r3 =>
        cases r3
        exact ⟨_, _, rfl, q _ H1 m1 f1 S1 (((R.mv f1).set i r1).set j r2)⟩
  · exact q.elim
def sPar3 (i j l : Nat) (c : En → Sto → Rs (List Wv)) : En → Sto → SR := fun env st => (c env st).sb fun ws st1 => match ws with
  | [u, v, w] => .nx (((env.set i (some u)).set j (some v)).set l (some w)) st1
  | _ => .no
end
end
section
variable [Wtp] [Tbl]
/-! ## a comprehension's block -/
def Tb.blk (B : Tb) (us ls : List Nat) (gs cs : List Str) : Tb := ⟨B.N, us, ls, [], gs, cs, false, B.gd, B.lq⟩
def kdV : Option NameKind → Bool
  | some .local => true
  | some .cell => true
  | some .free => true
  | _ => false
def kdL : Option NameKind → Bool
  | some .local => true
  | some .cell => true
  | _ => false
def kdC : Option NameKind → Bool
  | some .cell => true
  | some .free => true
  | _ => false
def kdG : Option NameKind → Bool
  | some .globalImplicit => true
  | _ => false
def blkT (B : Tb) (us ls : List Nat) (gs cs : List Str) (sc : Scope) (own : List (Str × Nat)) : Bool :=
  (match sc.kind with | .function => true | _ => false) &&
  ((sc.names.all fun y => decide (sc.names.lookup y.1 = some y.2)) &&
  ((own.all fun p => decide (B.N[p.2]? = some p.1)) &&
  ((sc.names.all fun y => match y.2 with
    | .free => decide (y.1 ∈ B.cs)
    | .local => decide (y.1 ∈ own.map (·.1)) || decide (y.1 ∉ B.N)
    | .cell => decide (y.1 ∈ own.map (·.1)) || decide (y.1 ∉ B.N)
    | _ => true) &&
  ((us.all fun i => match B.N[i]? with | some x => kdV (sc.names.lookup x) | none => true) &&
  ((ls.all fun i => match B.N[i]? with | some x => kdL (sc.names.lookup x) | none => true) &&
  ((gs.all fun x => kdG (sc.names.lookup x)) && (cs.all fun x => kdC (sc.names.lookup x))))))))
section
variable {M : Md} {X : Cx} {B : Tb} {k : Nat} {sc : Scope} {own : List (Str × Nat)} {us ls : List Nat} {gs cs : List Str}
theorem relS_keep {s0 : Scope} {x : Str} {q : NameKind} (h : sc.names.lookup x = some q) (hf : q ≠ .free) : (relS sc s0).names.lookup x = some q := lookup_relS_keep hf h
theorem relS_free {s0 : Scope} : ∀ {names : List (Str × NameKind)} {x : Str}, names.lookup x = some .free →
    (names.map fun (n, k) => if (k == NameKind.free && s0.kind == .function && s0.names.lookup n == some .cell) then (n, NameKind.cell) else (n, k)).lookup x = some .cell ∨
    (names.map fun (n, k) => if (k == NameKind.free && s0.kind == .function && s0.names.lookup n == some .cell) then (n, NameKind.cell) else (n, k)).lookup x = some .free
  | [], _, h => by simp at h
  | (n, q) :: r, x, h => by
    have ih := @relS_free s0 r x
    cases e : x == n with
    | true =>
      simp only [List.lookup_cons, e] at h
      cases h
      simp only [List.map_cons]
      split
      · exact .inl (by simp only [List.lookup_cons, e])
      · exact .inr (by simp only [List.lookup_cons, e])
    | false =>
      simp only [List.lookup_cons, e] at h
      simp only [List.map_cons]
      split
      · rcases ih h with z | z
        · exact .inl (by simp only [List.lookup_cons, e]; exact z)
        · exact .inr (by simp only [List.lookup_cons, e]; exact z)
      · rcases ih h with z | z
        · exact .inl (by simp only [List.lookup_cons, e]; exact z)
        · exact .inr (by simp only [List.lookup_cons, e]; exact z)
theorem vis_rel {s0 : Scope} {x : Str} (h : kdV (sc.names.lookup x) = true) : Vis (relS sc s0) x := by
  unfold kdV at h
  split at h
  · exact .inl (relS_keep (by assumption) (by decide))
  · exact .inr (.inl (relS_keep (by assumption) (by decide)))
  · rename_i e
    rcases relS_free (s0 := s0) e with z | z
    · exact .inr (.inl z)
    · exact .inr (.inr z)
  · cases h
theorem cap_rel {s0 : Scope} {x : Str} (h : kdC (sc.names.lookup x) = true) : (relS sc s0).names.lookup x = some .cell ∨ (relS sc s0).names.lookup x = some .free := by
  unfold kdC at h
  split at h
  · exact .inl (relS_keep (by assumption) (by decide))
  · rename_i e
    exact relS_free (s0 := s0) e
  · cases h
theorem loc_rel {s0 : Scope} {x : Str} (h : kdL (sc.names.lookup x) = true) : Loc (relS sc s0) x ∧ ((sc.names.lookup x == some .cell) = true ∨ (relS sc s0).names.lookup x = some .local) := by
  unfold kdL at h
  split at h
  · rename_i e
    exact ⟨.inl (relS_keep e (by decide)), .inr (relS_keep e (by decide))⟩
  · rename_i e
    exact ⟨.inr (relS_keep e (by decide)), .inl (by rw [e]; rfl)⟩
  · cases h
theorem Cxt.blkOk (c : Cxt M X B k) (h : blkT B us ls gs cs sc own = true) : BlkOk X.N X.env.scope sc own := by
  unfold blkT at h
  simp only [Bool.and_eq_true, List.all_eq_true, decide_eq_true_eq] at h
  obtain ⟨h1, h2, h3, h4, _⟩ := h
  refine ⟨?_, h2, by rw [c.hN]; exact h3, fun y hy e => ?_, fun y hy e => ?_⟩
  · split at h1
    · assumption
    · cases h1
  · have q := h4 y hy
    simp only [e, decide_eq_true_eq] at q
    exact c.cs _ q
  · have q := h4 y hy
    rw [c.hN]
    rcases e with e | e <;> (simp only [e, Bool.or_eq_true, decide_eq_true_eq] at q; exact q)
theorem Cxt.blk (c : Cxt M X B k) (h : blkT B us ls gs cs sc own = true) (s : Shared) (H : Hp) (C : Addr) (cl : List (Str × Addr)) (fp : List Addr) : Cxt M (X.blk s H sc (compEnvC sc cl C X.env) fp) (B.blk us ls gs cs) k := by
  unfold blkT at h
  simp only [Bool.and_eq_true, List.all_eq_true, decide_eq_true_eq] at h
  obtain ⟨h1, h2, h3, h4, h5, h6, h7, h8⟩ := h
  refine ⟨c.hP, c.hw, c.hK, c.mg, c.hb, c.hN, c.nd, c.calm, fun z => (Bool.false_ne_true z).elim, c.room, c.gu, fun i hi x hx => ?_, fun i hi x hx => ?_, fun i hi => absurd hi List.not_mem_nil, fun j x hx => ?_, fun x hx => ?_, fun z => (Bool.false_ne_true z).elim, c.lam, fun z => (Bool.false_ne_true z).elim⟩
  · have q := h5 i hi
    rw [show B.N[i]? = some x from hx] at q
    exact vis_rel q
  · have q := h6 i hi
    rw [show B.N[i]? = some x from hx] at q
    exact loc_rel q
  · have q := h7 x (List.mem_of_getElem? hx)
    unfold kdG at q
    split at q
    · rename_i e
      exact relS_keep e (by decide)
    · cases q
  · exact cap_rel (h8 x hx)
end
/-! ## what is walked -/
structure Sc where
  xs : List PyData
  lv : List (Nat × List PyData)
def lvOk (lv : List (Nat × List PyData)) (st : Sto) : Prop := ∀ p ∈ lv, st[p.1]? = some (.lst p.2)
@[simp] theorem lvOk_nil (st : Sto) : lvOk [] st = True := eq_true fun p hp => absurd hp List.not_mem_nil
theorem lvOk_one (i : Nat) (xs : List PyData) (st : Sto) : lvOk [(i, xs)] st = (st[i]? = some (.lst xs)) := propext ⟨fun h => h (i, xs) (by simp), fun h p hp => by cases List.mem_singleton.mp hp; exact h⟩
structure IsIt (K : Frg) (J : It) (m : Mp) (n : Nat) (H : Hp) (sc : Sc) : Prop where
  go : ∀ i H2 m2 st2, Fol m n H m2 st2.length H2 → Sim K H2 m2 st2 → lvOk sc.lv st2 → i < sc.xs.length → J.go i H2
  stop : ∀ H2 m2 st2, Fol m n H m2 st2.length H2 → Sim K H2 m2 st2 → lvOk sc.lv st2 → J.stop sc.xs.length H2
  yld : ∀ i H2 m2 st2 v H3, Fol m n H m2 st2.length H2 → Sim K H2 m2 st2 → lvOk sc.lv st2 → i < sc.xs.length → J.yld i H2 v H3 → (∀ a o, H2 a = some o → H3 a = some o) ∧ ∃ d, sc.xs[i]? = some d ∧ Rp K H3 (Off m2 st2.length) v d
def tI (X : Cx) (W : WX) (c : En → Sto → Rs Sc) : TI := fun σ H R => ∃ m env st, Sim X.K H m st ∧ EnvR X.K H m st.length env σ ∧
  (c env st).post (fun sc st' => ∀ J H' m', Fol m st.length H m' st'.length H' → Sim X.K H' m' st' → IsIt X.K J m' st'.length H' sc → R J H') (okX X W m st.length H σ)
structure DI (X : Cx) (tg e : Expr) (c : En → Sto → Rs Sc) : Prop where
  pi : ∀ W, Takes X W → PI X tg e (tI X W c)
section
open Classical
/-- the turns of a for -/
noncomputable def forL (g : Wv → En → Option En) (b : En → Sto → SR) (lv : List (Nat × List PyData)) : List PyData → En → Sto → SR
  | [], env, st => if lvOk lv st then .nx env st else .no
  | x :: r, env, st => if lvOk lv st then match g (.d x) env with
      | some env1 => (b env1 st).seq (forL g b lv r)
      | none => .no
    else .no
noncomputable def sFor (c : En → Sto → Rs Sc) (g : Wv → En → Option En) (b : En → Sto → SR) : En → Sto → SR := fun env st => (c env st).sb fun sc st1 => forL g b sc.lv sc.xs env st1
def wipeE (env : En) : List Nat → En
  | [] => env
  | i :: vs => (wipeE env vs).set i none
/-- the turns of a comprehension -/
noncomputable def lcL (g : Wv → En → Option En) (t : En → Sto → Rs Bool) (c : En → Sto → Rs Wv) (lv : List (Nat × List PyData)) (env : En) : List PyData → List PyData → Sto → Rs (List PyData)
  | [], acc, st => if lvOk lv st then .ok acc st else .no
  | x :: r, acc, st => if lvOk lv st then match g (.d x) env with
      | some env1 => match t env1 st with
        | .ok true st1 => (match c env1 st1 with
          | .ok (.d y) st2 => lcL g t c lv env r (acc ++ [y]) st2
          | _ => .no)
        | .ok false st1 => lcL g t c lv env r acc st1
        | _ => .no
      | none => .no
    else .no
noncomputable def cLc (ci : En → Sto → Rs Sc) (g : Wv → En → Option En) (t : En → Sto → Rs Bool) (c : En → Sto → Rs Wv) (vs : List Nat) : En → Sto → Rs (List PyData) := fun env st => (ci env st).bind fun sc st1 =>
  if sc.xs.length ≤ 1000000 then lcL g t c sc.lv (wipeE env vs) sc.xs [] st1 else .no
noncomputable def eLc (ci : En → Sto → Rs Sc) (g : Wv → En → Option En) (t : En → Sto → Rs Bool) (c : En → Sto → Rs Wv) (vs : List Nat) : En → Sto → Rs Wv := fun env st => (cLc ci g t c vs env st).bind fun ys st2 => .ok (.d (.list ys)) st2
noncomputable def eLcN (ci : En → Sto → Rs Sc) (g : Wv → En → Option En) (t : En → Sto → Rs Bool) (c : En → Sto → Rs Wv) (vs : List Nat) : En → Sto → Rs Wv := fun env st => (cLc ci g t c vs env st).bind fun ys st2 => .ok (.r st2.length) (st2 ++ [.lst ys])
end
def tYs : En → Sto → Rs Bool := fun _ st => .ok true st
structure DTs (X : Cx) (es : List Expr) (c : En → Sto → Rs Bool) : Prop where
  pts : ∀ W, Takes X W → PTs X es (tT X W c)
section
variable {M : Md} {X : Cx} {B : Tb} {k : Nat} {pins : List (Addr × Obj)} {σ : L2.St} {H : Hp} {s : Shared} {m : Mp} {env : En} {st : Sto} {W : WX} {D : Ends} {pos : Pos}
theorem seq_post {x : SR} {f : En → Sto → SR} {N : En → Sto → Prop} {R : Rt → Sto → Prop} {E : Xc → Sto → Prop} (h : (x.seq f).post N R E) : x.post (fun env st => (f env st).post N R E) R E := by rw [SR.post_seq] at h; exact h
theorem ds_for (c : Cxt M X B k) {tg e : Expr} {body : List Stmt} {ci : En → Sto → Rs Sc} {g : Wv → En → Option En} {cb : En → Sto → SR} (S0 : List Nat) (hi : DI X tg e ci) (hg : DG X S0 tg g) (hb : DB X body cb) (hf : B.fn = true := by rfl)
    (hs : ∀ x, foldedSetIterable e X.env x = pure x := by intro _; rfl) : DS X (.For tg e body [] pos) (sFor ci g cb) := by
  refine ⟨fun W tk => PS.imp (ps_for (c.po hf) c.calm (hi.pi W tk) hg.pg (hb.pss W tk) hs) fun D σ H ⟨m, env, st, S, R, hp⟩ => ?_⟩
  unfold sFor at hp
  rw [Rs.post_sb] at hp
  refine ⟨m, env, st, S, R, Rs.post_mono hp (fun sc st1 q J H1 m1 f1 S1 it => ?_) fun _ _ h => h.x⟩
  generalize hW : (fun (i mm : Nat) (σ' : L2.St) (H' : Hp) => mm = sc.xs.length - i ∧ i ≤ sc.xs.length ∧ ∃ m2 env2 st2, Fol m1 st1.length H1 m2 st2.length H' ∧ Sim X.K H' m2 st2 ∧ EnvR X.K H' m2 st2.length env2 σ' ∧
    (forL g cb sc.lv (sc.xs.drop i) env2 st2).post (okN X m st.length H D) (okR X m st.length H D) (okXs X W m st.length H)) = Wf
  refine ⟨Wf, by rw [← hW]; exact ⟨_, rfl, Nat.zero_le _, m1, env, st1, .refl, S1, R.mv f1, by simpa using q⟩, ?_⟩
  intro i mm σ2 H2 w
  rw [← hW] at w
  obtain ⟨rfl, hi2, m2, env2, st2, f2, S2, R2, q2⟩ := w
  by_cases hlt : i < sc.xs.length
  · rw [List.drop_eq_getElem_cons hlt] at q2
    unfold forL at q2
    split at q2
    · rename_i hl
      split at q2
      · rename_i env3 he3
        refine .inr ⟨it.go i H2 m2 st2 f2 S2 hl hlt, Wf (i + 1) (sc.xs.length - (i + 1)), fun σ' H' z => ⟨_, by omega, z⟩, fun v H3 y => ?_⟩
        obtain ⟨g3, d, hd, r3⟩ := it.yld i H2 m2 st2 v H3 f2 S2 hl hlt y
        rw [List.getElem?_eq_getElem hlt] at hd
        cases hd
        refine ⟨m2, st2.length, env2, .d sc.xs[i], env3, r3, R2.mv (.same g3), he3, fun σ3 R3 _ => ?_⟩
        refine ⟨m2, env3, st2, S2.grow g3, R3, SR.post_mono (seq_post q2) (fun env4 st4 q4 σ4 H4 m4 f4 S4 R4 => ?_) (fun p st4 q4 => ?_) fun e st4 q4 => ?_⟩
        · rw [← hW]; exact ⟨rfl, hlt, m4, env4, st4, (f2.trans (.same g3)).trans f4, S4, R4, q4⟩
        · exact okR.tr ((f1.trans f2).trans (.same g3)) q4
        · exact okXs.tr ((f1.trans f2).trans (.same g3)) q4
      · exact q2.elim
    · exact q2.elim
  · have e : i = sc.xs.length := by omega
    subst e
    rw [List.drop_length] at q2
    unfold forL at q2
    split at q2
    · rename_i hl
      exact .inl ⟨it.stop H2 m2 st2 f2 S2 hl, q2 σ2 H2 m2 (f1.trans f2) S2 R2⟩
    · exact q2.elim
theorem EnvR.unset {K : Frg} {n : Nat} (h : EnvR K H m n env σ) (i : Nat) : EnvR K H m n (env.set i none) (σ.set i none) := by
  refine ⟨by simp [h.len], fun j u e => ?_⟩
  by_cases q : i = j
  · subst q
    by_cases l : i < env.length
    · rw [List.getElem?_set_self l] at e; cases e
    · rw [List.getElem?_eq_none (by simpa using l)] at e; cases e
  · rw [List.getElem?_set_ne q] at e
    obtain ⟨x, h1, h2⟩ := h.at' j u e
    exact ⟨x, by rw [List.getElem?_set_ne q]; exact h1, h2⟩
theorem EnvR.wipe {K : Frg} {n : Nat} (h : EnvR K H m n env σ) : ∀ vs : List Nat, EnvR K H m n (wipeE env vs) (wipe σ vs)
  | [] => h
  | i :: vs => (EnvR.wipe h vs).unset i
theorem wipe_len (σ : L2.St) : ∀ vs : List Nat, (L2.wipe σ vs).length = σ.length
  | [] => rfl
  | i :: vs => by simp [L2.wipe, wipe_len σ vs]
theorem wipe_in {σ : L2.St} {i : Nat} : ∀ {vs : List Nat}, i ∈ vs → i < σ.length → (L2.wipe σ vs)[i]? = some none
  | j :: vs, h, l => by
    show ((L2.wipe σ vs).set j none)[i]? = some none
    by_cases e : j = i
    · subst e; exact List.getElem?_set_self (by rw [wipe_len]; exact l)
    · rw [List.getElem?_set_ne e]
      exact wipe_in ((List.mem_cons.mp h).resolve_left fun z => e z.symm) l
theorem But.wipe {S : List Nat} {vs : List Nat} {σ σ2 : L2.St} (b : But S (L2.wipe σ vs) σ2) (h : ∀ i ∈ S, i ∈ vs) : L2.wipe σ2 vs = L2.wipe σ vs := by
  have hl : σ2.length = σ.length := b.1.trans (wipe_len σ vs)
  refine List.ext_getElem? fun i => ?_
  by_cases q : i ∈ vs
  · by_cases l : i < σ.length
    · rw [wipe_in q (by rw [hl]; exact l), wipe_in q l]
    · rw [List.getElem?_eq_none (by rw [wipe_len, hl]; omega), List.getElem?_eq_none (by rw [wipe_len]; omega)]
  · rw [wipe_out q, b.2 i fun z => q (h i z)]
theorem dts_nil : DTs X [] tYs := ⟨fun W tk => ⟨fun pins s σ H Q I ⟨m, env, st, S, R, hp⟩ => pts_nil.run pins s σ H Q I (hp H m .refl S)⟩⟩
def Wno : WX := fun _ _ _ _ => False
theorem takes_no {X : Cx} : Takes X Wno := fun u s' ⟨a, B, sI, pins, σ, H, cls, d, e, I, nb, up, sky, na, os, ag, w⟩ => w.elim
/-- D is being made -/
def Mp.with (m : Mp) (D : Addr) : Mp := ⟨m.ix, fun a => m.F a ∨ a = D⟩
def Mp.done (m : Mp) (D : Addr) : Mp := ⟨m.ix, fun a => m.F a ∧ a ≠ D⟩
theorem Sim.sub {K : Frg} {m' : Mp} (S : Sim K H m st) (hi : m'.ix = m.ix) (hF : ∀ a, m'.F a → m.F a) : Sim K H m' st := by
  have kp : Kp K H (Off m st.length) H (Off m' st.length) := ⟨fun _ _ h => h, fun _ _ _ h => h, fun a o _ h z => ⟨h, by rw [hi]; exact z.1, fun q => z.2 (hF a q)⟩⟩
  refine ⟨fun i o e => ?_, fun i j => by rw [hi]; exact S.inj i j, fun a q => S.ff a (hF a q), fun i h q => S.fi i h (by rw [hi] at q; exact hF _ q), S.tb⟩
  have h := S.ob i o e
  rw [hi]
  cases o with
  | lst xs => obtain ⟨vs, h1, h2⟩ := h; exact ⟨vs, h1, h2.mv kp⟩
  | dct kvs => obtain ⟨vs, h1, h2⟩ := h; exact ⟨vs, h1, RpK.kp kp _ _ h2⟩
  | dtt kvs => obtain ⟨vs, h1, h2⟩ := h; exact ⟨vs, h1, RpT.kp kp _ _ h2⟩
  | lkd es => exact Rp.mv h kp
  | lkl xs => exact FzL.mv h kp
theorem off_done {n : Nat} {D : Addr} : ∀ a, Off m n a → Off (m.done D) n a := fun a z => ⟨z.1, fun q => z.2 q.1⟩
theorem Sim.start {K : Frg} {D : Addr} {o : HO} (S : Sim K H m st) (hn : H D = none) (nt : NT o := by exact fun _ z => nomatch z) : Sim K (upd H D o) (m.with D) st ∧ Fol m st.length H (m.with D) st.length (upd H D o) := by
  have g := grow_upd (o := o) hn
  have f : Fol m st.length H (m.with D) st.length (upd H D o) := ⟨fun a _ h => g a _ h, fun a _ _ h => g a _ h, fun a _ _ h _ => g a _ h, fun _ _ => rfl, fun i a b => absurd b (by omega), Nat.le_refl _, domOf g, fun a h =>
    ⟨fun q => q.resolve_right fun e => nn_no hn (e ▸ h), fun q => .inl q⟩⟩
  refine ⟨⟨fun i o e => (S.ob i o e).mv f fun u => g _ u, S.inj, fun a q => ?_, fun i hi q => ?_, S.tb.ext g⟩, f⟩
  · rcases q with q | q
    · exact domOf g a (S.ff a q)
    · rw [q]; exact ⟨o, upd_same, nt⟩
  · rcases q with q | q
    · exact S.fi i hi q
    · exact nn_no hn (by have := S.there hi; rwa [show m.ix i = D from q] at this)
theorem Fol.done {n n2 : Nat} {m2 : Mp} {H2 : Hp} {D : Addr} (f : Fol m n H m2 n2 H2) (hn : ¬ Nn H D) : Fol m n H (m2.done D) n2 H2 :=
  ⟨f.tup, f.frz, f.rest, f.old, f.new, f.le, f.dom, fun a h => ⟨fun q => (f.eF a h).mp q.1, fun q => ⟨(f.eF a h).mpr q, fun e => hn (e ▸ h)⟩⟩⟩
/-- one more item -/
theorem _root_.LamX.Tabs.wr {T : List (Addr × Str)} {D : Addr} {o o' : HO} (t : LamX.Tabs T H) (hD : H D = some o) (ho : (∃ xs, o = .lst xs) ∨ (∃ kvs, o = .dK kvs) ∨ ∃ kvs, o = .dT kvs) : LamX.Tabs T (upd H D o') := fun p hp => by
  obtain ⟨ps, h1, h2, h3⟩ := t p hp
  refine ⟨ps, ?_, h2, fun pos cv hc => ?_⟩
  · rw [upd_ne]; exact h1
    intro e; rw [e, hD] at h1
    rcases ho with ⟨_, rfl⟩ | ⟨_, rfl⟩ | ⟨_, rfl⟩ <;> cases h1
  · obtain ⟨c, e, hq⟩ := h3 pos cv hc
    refine ⟨c, e, ?_⟩
    rw [upd_ne]; exact hq
    intro e2; rw [e2, hD] at hq
    rcases ho with ⟨_, rfl⟩ | ⟨_, rfl⟩ | ⟨_, rfl⟩ <;> cases hq
theorem Kp.push {K : Frg} {n : Nat} {D : Addr} {xs ys : List V} (hF : m.F D) (hD : H D = some (.lst ys)) : Kp K H (Off m n) (upd H D (.lst xs)) (Off m n) := by
  refine ⟨fun a us h => ?_, fun a o u h => ?_, fun a o _ h z => ⟨?_, z⟩⟩
  · rw [upd_ne]; exact h
    intro e; rw [e, hD] at h; cases h
  · rw [upd_ne]; exact h
    intro e; rw [e, hD] at h; cases h
  · rw [upd_ne]; exact h
    exact fun e => z.2 (e ▸ hF)
theorem Sim.push {K : Frg} {D : Addr} {xs ys : List V} (S : Sim K H m st) (hF : m.F D) (hD : H D = some (.lst ys)) : Sim K (upd H D (.lst xs)) m st := by
  have kp := Kp.push (K := K) (n := st.length) (xs := xs) hF hD
  refine ⟨fun i u e => ?_, S.inj, fun a z => ?_, S.fi, S.tb.wr hD (.inl ⟨_, rfl⟩)⟩
  · have h := S.ob i u e
    have hi : i < st.length := (List.getElem?_eq_some_iff.mp e).1
    have hx : m.ix i ≠ D := fun e => S.fi i hi (e ▸ hF)
    cases u with
    | lst xs => obtain ⟨vs, h1, h2⟩ := h; exact ⟨vs, by rw [upd_ne hx]; exact h1, h2.mv kp⟩
    | dct kvs => obtain ⟨vs, h1, h2⟩ := h; exact ⟨vs, by rw [upd_ne hx]; exact h1, RpK.kp kp _ _ h2⟩
    | dtt kvs => obtain ⟨vs, h1, h2⟩ := h; exact ⟨vs, by rw [upd_ne hx]; exact h1, RpT.kp kp _ _ h2⟩
    | lkd es => exact Rp.mv h kp
    | lkl xs => exact FzL.mv h kp
  · by_cases e : a = D
    · rw [e]; exact ⟨_, upd_same, nt_lst⟩
    · obtain ⟨o, h, nt⟩ := S.ff a z
      exact ⟨o, by rw [upd_ne e]; exact h, nt⟩
theorem Fol.done2 {n n2 : Nat} {m2 : Mp} {H2 : Hp} (D : Addr) (f : Fol m n H m2 n2 H2) : Fol (m.done D) n H (m2.done D) n2 H2 :=
  ⟨f.tup, f.frz, f.rest, f.old, f.new, f.le, f.dom, fun a h => and_congr (f.eF a h) Iff.rfl⟩
theorem Fol.updD {n n2 : Nat} {m2 : Mp} {H2 : Hp} {D : Addr} {o : HO} (f : Fol m n H m2 n2 H2) (hn : ¬ Nn H D) (nt : NT o := by exact fun _ z => nomatch z) : Fol m n H m2 n2 (upd H2 D o) := by
  have nd : ∀ {a o}, H a = some o → NT o → a ≠ D := fun h nt e => hn ⟨_, e ▸ h, nt⟩
  exact ⟨fun a xs h => by rw [upd_ne (nd h fun _ z => nomatch z)]; exact f.tup a xs h, fun a o u h => by rw [upd_ne (nd h fun _ z => nomatch z)]; exact f.frz a o u h, fun a o nt h z => by rw [upd_ne (nd h nt)]; exact f.rest a o nt h z, f.old, f.new, f.le, fun a h => by
    by_cases e : a = D
    · rw [e]; exact ⟨_, upd_same, nt⟩
    · obtain ⟨o2, h2, nt2⟩ := f.dom a h
      exact ⟨o2, by rw [upd_ne e]; exact h2, nt2⟩
  , f.eF⟩
theorem Fol.undone {n n2 : Nat} {m2 : Mp} {H2 : Hp} {D : Addr} (f : Fol m n H (m2.done D) n2 H2) (hn : ¬ Nn H D) : Fol m n H m2 n2 H2 :=
  ⟨f.tup, f.frz, f.rest, f.old, f.new, f.le, f.dom, fun a h => ⟨fun q => (f.eF a h).mp ⟨q, fun e => hn (e ▸ h)⟩, fun q => ((f.eF a h).mpr q).1⟩⟩
/-- a comprehension, the new list at D -/
theorem lc_tLc {ci : En → Sto → Rs Sc} {g : Wv → En → Option En} {t : En → Sto → Rs Bool} {c : En → Sto → Rs Wv} {vs : List Nat} {S0 : List Nat} {tg : TG} {Q : VK} (hS : ∀ i ∈ S0, i ∈ vs)
    (htg : ∀ v σ H Q, (∃ m n env w env', RW X.K H m n v w ∧ EnvR X.K H m n env σ ∧ g w env = some env' ∧ ∀ σ', EnvR X.K H m n env' σ' → But S0 σ σ' → Q σ' H) → tg v σ H Q)
    (S : Sim X.K H m st) (R : EnvR X.K H m st.length env σ)
    (hp : (cLc ci g t c vs env st).post (fun ys st' => ∀ D H' m' xs, ¬ Nn H D → Fol m st.length H (m'.done D) st'.length H' → Sim X.K H' m' st' → m'.F D → H' D = some (.lst xs) → RpA X.K H' (Off m' st'.length) xs ys → Q (.ref D) H') (okX X W m st.length H σ)) :
    tLc (tI X W ci) tg (tT X Wno t) (tE X Wno c) vs σ H Q := by
  unfold cLc at hp
  rw [Rs.post_bind] at hp
  refine ⟨m, env, st, S, R, Rs.post_mono hp (fun sc st1 q J H1 m1 f1 S1 it => ?_) fun _ _ h => h⟩
  split at q
  · rename_i hlen
    intro D hD
    have hD0 : ¬ Nn H D := fun z => nn_no hD (f1.dom D z)
    obtain ⟨S0', f0⟩ := S1.start (D := D) (o := .lst []) hD
    generalize hW : (fun (i mm : Nat) (Hc : Hp) => mm = sc.xs.length - i ∧ i ≤ sc.xs.length ∧ ∃ m2 st2 acc us, Fol m1 st1.length H1 (m2.done D) st2.length Hc ∧ Sim X.K Hc m2 st2 ∧ m2.F D ∧ Hc D = some (.lst us) ∧ RpA X.K Hc (Off m2 st2.length) us acc ∧ acc.length ≤ i ∧
      (lcL g t c sc.lv (wipeE env vs) (sc.xs.drop i) acc st2).post (fun ys st' => ∀ D H' m' xs, ¬ Nn H D → Fol m st.length H (m'.done D) st'.length H' → Sim X.K H' m' st' → m'.F D → H' D = some (.lst xs) → RpA X.K H' (Off m' st'.length) xs ys → Q (.ref D) H') (okX X W m st.length H σ)) = Wf
    refine ⟨Wf, ⟨_, by rw [← hW]; exact ⟨rfl, Nat.zero_le _, m1.with D, st1, [], [], f0.done (nn_no hD), S0', .inr rfl, upd_same, .nil, Nat.le_refl _, by simpa using q⟩⟩, ?_⟩
    intro i mm Hc w
    rw [← hW] at w
    obtain ⟨rfl, hi2, m2, st2, acc, us, f2, S2, F2, hc2, r2, ha2, q2⟩ := w
    by_cases hlt : i < sc.xs.length
    · rw [List.drop_eq_getElem_cons hlt] at q2
      unfold lcL at q2
      split at q2
      · rename_i hl
        split at q2
        · rename_i env3 he3
          refine .inr ⟨it.go i Hc m2 st2 (f2.undone (nn_no hD)) S2 hl hlt, Wf (i + 1) (sc.xs.length - (i + 1)), fun H' z => ⟨_, by omega, z⟩, fun v H3 y => ?_⟩
          obtain ⟨g3, d, hd, r3⟩ := it.yld i Hc m2 st2 v H3 (f2.undone (nn_no hD)) S2 hl hlt y
          rw [List.getElem?_eq_getElem hlt] at hd
          cases hd
          have fe : Fol m st.length H m2 st2.length H3 := (f1.trans (f2.undone (nn_no hD))).trans (.same g3)
          refine htg _ _ _ _ ⟨m2, st2.length, wipeE env vs, .d sc.xs[i], env3, r3, (R.mv fe).wipe vs, he3, fun σ3 R3 b3 => ⟨b3.wipe hS, ?_⟩⟩
          refine ⟨m2, env3, st2, S2.grow g3, R3, ?_⟩
          split at q2
          · rename_i st4 ht4
            rw [ht4]
            intro H4 m4 f4 S4
            rw [if_pos rfl]
            refine ⟨m4, env3, st4, S4, R3.mv f4, ?_⟩
            split at q2
            · rename_i y5 st5 hc5
              rw [hc5]
              intro v5 H5 m5 f5 S5 r5
              have c3 : H3 D = some (.lst us) := g3 _ _ hc2
              have fD : Fol m2 st2.length Hc m5 st5.length H5 := (Fol.same g3).trans (f4.trans f5)
              have nD : ∀ i, i < st2.length → m2.ix i ≠ D := fun i hi e => S2.fi i hi (e ▸ F2)
              have c5 : H5 D = some (.lst us) := fD.rest _ _ nt_lst hc2 nD
              have F5 : m5.F D := (fD.eF D ⟨_, hc2, nt_lst⟩).mpr F2
              have kp : Kp X.K H5 (Off m5 st5.length) (upd H5 D (.lst (us ++ [v5]))) (Off m5 st5.length) := .push F5 c5
              refine ⟨us, c5, ?_, ?_⟩
              · have : us.length = acc.length := r2.len
                have := line_lim
                omega
              · rw [← hW]
                refine ⟨rfl, hlt, m5, st5, acc ++ [y5], us ++ [v5], ?_, S5.push F5 c5, F5, upd_same, ?_, ?_, q2⟩
                · exact (f2.trans (fD.done2 D)).updD (nn_no hD)
                · exact ((r2.mv fD.kp).app (.cons r5 .nil)).mv kp
                · simp; exact ha2
            · exact q2.elim
          · rename_i st4 ht4
            rw [ht4]
            intro H4 m4 f4 S4
            rw [if_neg Bool.false_ne_true]
            have fD : Fol m2 st2.length Hc m4 st4.length H4 := (Fol.same g3).trans f4
            have nD : ∀ i, i < st2.length → m2.ix i ≠ D := fun i hi e => S2.fi i hi (e ▸ F2)
            have c5 : H4 D = some (.lst us) := fD.rest _ _ nt_lst hc2 nD
            have F5 : m4.F D := (fD.eF D ⟨_, hc2, nt_lst⟩).mpr F2
            rw [← hW]
            exact ⟨rfl, hlt, m4, st4, acc, us, f2.trans (fD.done2 D), S4, F5, c5, r2.mv fD.kp, Nat.le_succ_of_le ha2, q2⟩
          · exact q2.elim
        · exact q2.elim
      · exact q2.elim
    · have e : i = sc.xs.length := by omega
      subst e
      rw [List.drop_length] at q2
      unfold lcL at q2
      split at q2
      · rename_i hl
        exact .inl ⟨it.stop Hc m2 st2 (f2.undone (nn_no hD)) S2 hl, q2 D Hc m2 us hD0 ((f1.trans (f2.undone (nn_no hD))).done hD0) S2 F2 hc2 r2⟩
      · exact q2.elim
  · exact q.elim
end
end
section
variable [Wtp] [Tbl]
/-! ## enumerate and zip over lists and tuples of any mix -/
inductive Kd where
  | l
  | t
namespace Kd
def ob : Kd → Addr → Obj
  | l, a => { cls := .type "list_iterator", data := .fields #[.ref a, .int 0 0] }
  | t, a => { cls := .type "tuple_iterator", data := .fields #[.ref a, .int 0 0] }
def it (q : Kd) (h : Heap) (i a : Addr) (n : Nat) : Prop := match q with
  | l => h.IsListIter i a n
  | t => h.IsTupleIter i a n
def here (q : Kd) (h : Heap) (a : Addr) (xs : Array Value) : Prop := match q with
  | l => h.IsList a xs
  | t => h.IsTuple a xs
def sq (q : Kd) (K : Frg) (H : Hp) (a : Addr) (xs : List V) : Prop := match q with
  | l => SqL K H a xs
  | t => SqT K H a xs
section
variable {q : Kd} {h h' : Heap} {i a : Addr} {n : Nat} {xs : Array Value}
theorem free (q : Kd) (a : Addr) : (q.ob a).isFreed = false := by cases q <;> rfl
end
section
variable {X : Cx} {q : Kd} {pins : List (Addr × Obj)} {σ : L2.St} {H : Hp} {s : Shared} {a : Addr} {xs ys : List V}
theorem of (I : Inv X pins σ H s) (h : q.sq X.K H a xs) : ∃ us : List Value, Vals xs us ∧ q.here s.heap a us.toArray := by
  cases q with
  | l => obtain ⟨us, r, p, _⟩ := I.list h; exact ⟨us, r, p.isList⟩
  | t => obtain ⟨us, r, p, _⟩ := I.tuple h; exact ⟨us, r, p⟩
theorem inj (I : Inv X pins σ H s) (h : q.sq X.K H a xs) (h' : q.sq X.K H a ys) : xs = ys := by
  cases q with
  | l => exact I.list_inj h h'
  | t => exact I.tuple_inj h h'
end
end Kd
end
section
variable [Wtp] [Tbl]
/-! ## the sources of a loop -/
def seqW (w : Wv) (st : Sto) : Option Sc := match w with
  | .d (.list xs) => some ⟨xs, []⟩
  | .d (.tuple xs) => some ⟨xs, []⟩
  | .r i => match st[i]? with
    | some (.lst xs) => some ⟨xs, [(i, xs)]⟩
    | _ => none
  | _ => none
@[simp] theorem seqW_list (xs : List PyData) (st : Sto) : seqW (.d (.list xs)) st = some ⟨xs, []⟩ := rfl
@[simp] theorem seqW_tuple (xs : List PyData) (st : Sto) : seqW (.d (.tuple xs)) st = some ⟨xs, []⟩ := rfl
def sgnD (c : Nat) : PyData := .str ⟨#[c]⟩
def cSeq (c : En → Sto → Rs Wv) : En → Sto → Rs Sc := fun env st => (c env st).bind fun w st1 => match w with
  | .d (.str x) => .ok ⟨x.cps.toList.map sgnD, []⟩ st1
  | .d (.dict es) => .ok ⟨es.map (·.1), []⟩ st1
  | w => match seqW w st1 with
    | some sc => .ok sc st1
    | none => .no
def pairD (x y : PyData) : PyData := .tuple [x, y]
def zip3 : List PyData → List PyData → List PyData → List PyData
  | x :: xs, y :: ys, z :: zs => .tuple [x, y, z] :: zip3 xs ys zs
  | _, _, _ => []
def cZip2 (cs : En → Sto → Rs (List Wv)) : En → Sto → Rs Sc := fun env st => (cs env st).bind fun ws st1 => match ws with
  | [u, v] => match seqW u st1, seqW v st1 with
    | some a, some b => .ok ⟨List.zipWith pairD a.xs b.xs, a.lv ++ b.lv⟩ st1
    | _, _ => .no
  | _ => .no
def cZip3 (cs : En → Sto → Rs (List Wv)) : En → Sto → Rs Sc := fun env st => (cs env st).bind fun ws st1 => match ws with
  | [u, v, w] => match seqW u st1, seqW v st1, seqW w st1 with
    | some a, some b, some c => .ok ⟨zip3 a.xs b.xs c.xs, (a.lv ++ b.lv) ++ c.lv⟩ st1
    | _, _, _ => .no
  | _ => .no
def enumD (xs : List PyData) : List PyData := xs.mapIdx fun i x => .tuple [.int (i : Nat), x]
def cEnum (cs : En → Sto → Rs (List Wv)) : En → Sto → Rs Sc := fun env st => (cs env st).bind fun ws st1 => match ws with
  | [u] => match seqW u st1 with
    | some a => .ok ⟨enumD a.xs, a.lv⟩ st1
    | _ => .no
  | _ => .no
def rangeD (lo : Int) (n : Nat) : List PyData := (List.range n).map fun i => .int (lo + (i : Nat))
def downD (lo : Int) (n : Nat) : List PyData := (List.range n).map fun i => .int (lo - (i : Nat))
def rgOk (i : Int) : Bool := decide (-(2 ^ 62) ≤ i) && decide (i < 2 ^ 62)
def cRg1 (cs : En → Sto → Rs (List Wv)) : En → Sto → Rs Sc := fun env st => (cs env st).bind fun ws st1 => match ws with
  | [.d (.int j)] => if rgOk j then .ok ⟨rangeD 0 j.toNat, []⟩ st1 else .no
  | _ => .no
def cRg2 (cs : En → Sto → Rs (List Wv)) : En → Sto → Rs Sc := fun env st => (cs env st).bind fun ws st1 => match ws with
  | [.d (.int i), .d (.int j)] => if rgOk i && rgOk j then .ok ⟨rangeD i (j - i).toNat, []⟩ st1 else .no
  | _ => .no
def cRgD (cs : En → Sto → Rs (List Wv)) : En → Sto → Rs Sc := fun env st => (cs env st).bind fun ws st1 => match ws with
  | [.d (.int i), .d (.int j), .d (.int (-1))] => if rgOk i && rgOk j then .ok ⟨downD i (i - j).toNat, []⟩ st1 else .no
  | _ => .no
/-- what stands at a stays -/
structure HoldsAt (K : Frg) (m : Mp) (n : Nat) (H : Hp) (sc : Sc) (q : Kd) (a : Addr) : Prop where
  at' : ∀ H2 m2 st2, Fol m n H m2 st2.length H2 → Sim K H2 m2 st2 → lvOk sc.lv st2 → ∃ us, q.sq K H2 a us ∧ RpA K H2 (Off m2 st2.length) us sc.xs
section
variable {K : Frg} {m : Mp} {H : Hp} {st : Sto} {n : Nat}
theorem seqW_at {v : V} {w : Wv} {sc : Sc} (S : Sim K H m st) (r : RW K H m st.length v w) (e : seqW w st = some sc) : ∃ a q, v = .ref a ∧ HoldsAt K m st.length H sc q a := by
  unfold seqW at e
  split at e
  · cases e
    cases r with
    | lst h1 h2 => exact ⟨_, .l, rfl, ⟨fun H2 m2 st2 f S2 _ => ⟨_, (f.kp.ls h1).sq, h2.mv f.kp⟩⟩⟩
  · cases e
    cases r with
    | tup h1 h2 => exact ⟨_, .t, rfl, ⟨fun H2 m2 st2 f S2 _ => ⟨_, f.kp.sqt h1.sq, h2.mv f.kp⟩⟩⟩
  · split at e
    · rename_i i _ xs e1
      cases e
      refine ⟨m.ix i, .l, r.2, ⟨fun H2 m2 st2 f S2 l => ?_⟩⟩
      rw [lvOk_one] at l
      obtain ⟨us, h1, h2⟩ := S2.ob i _ l
      rw [f.old i r.1] at h1
      exact ⟨us, .inl (.inl h1), h2⟩
    · cases e
  · cases e
theorem isit_l {sc : Sc} {a : Addr} (h : HoldsAt K m n H sc .l a) : IsIt K (Itl K a) m n H sc := by
  refine ⟨fun i H2 m2 st2 f S l hi => ?_, fun H2 m2 st2 f S l => ?_, fun i H2 m2 st2 v H3 f S l hi y => ?_⟩
  · obtain ⟨us, q, r⟩ := h.at' H2 m2 st2 f S l
    obtain ⟨v, hv, _⟩ := r.get (List.getElem?_eq_getElem hi)
    exact ⟨us, v, q, hv⟩
  · obtain ⟨us, q, r⟩ := h.at' H2 m2 st2 f S l
    exact ⟨us, q, Nat.le_of_eq r.len⟩
  · obtain ⟨us, q, r⟩ := h.at' H2 m2 st2 f S l
    obtain ⟨rfl, y⟩ := y
    obtain ⟨v', hv, rv⟩ := r.get (List.getElem?_eq_getElem hi)
    have := y us q
    rw [hv] at this
    cases this
    exact ⟨fun _ _ h => h, _, List.getElem?_eq_getElem hi, rv⟩
theorem isit_t {sc : Sc} {a : Addr} (h : HoldsAt K m n H sc .t a) : IsIt K (Itt K a) m n H sc := by
  refine ⟨fun i H2 m2 st2 f S l hi => ?_, fun H2 m2 st2 f S l => ?_, fun i H2 m2 st2 v H3 f S l hi y => ?_⟩
  · obtain ⟨us, q, r⟩ := h.at' H2 m2 st2 f S l
    obtain ⟨v, hv, _⟩ := r.get (List.getElem?_eq_getElem hi)
    exact ⟨us, v, q, hv⟩
  · obtain ⟨us, q, r⟩ := h.at' H2 m2 st2 f S l
    exact ⟨us, q, Nat.le_of_eq r.len⟩
  · obtain ⟨us, q, r⟩ := h.at' H2 m2 st2 f S l
    obtain ⟨rfl, y⟩ := y
    obtain ⟨v', hv, rv⟩ := r.get (List.getElem?_eq_getElem hi)
    have := y us q
    rw [hv] at this
    cases this
    exact ⟨fun _ _ h => h, _, List.getElem?_eq_getElem hi, rv⟩
theorem isit_s {x : Str} : IsIt K (Its x) m n H ⟨x.cps.toList.map sgnD, []⟩ := by
  refine ⟨fun i H2 m2 st2 f S l hi => by show i < x.cps.size; simpa using hi, fun H2 m2 st2 f S l => by show x.cps.size ≤ _; simp, fun i H2 m2 st2 v H3 f S l hi y => ?_⟩
  obtain ⟨rfl, c, hc, rfl⟩ := y
  exact ⟨fun _ _ h => h, sgnD c, by simp [hc], .str _⟩
/-! ### a dict's keys -/
theorem rp_key {Z : Addr → Prop} {c : PyData} {k : Key} (h : keyD c = some k) : Rp K H Z (kV k) c := by
  cases c <;> first | (cases h; first | exact .int _ | exact .str _) | cases h
theorem rp_keys {Z : Addr → Prop} : ∀ {ds : List PyData} {ks : List Key}, keysD ds = some ks → RpA K H Z (ks.map kV) ds
  | [], _, e => by cases e; exact .nil
  | d :: ds, _, e => by
    unfold keysD at e
    split at e
    · rename_i k0 ks e1 e2
      cases e
      exact .cons (rp_key e1) (rp_keys e2)
    · cases e
theorem RpK.at' {Z : Addr → Prop} : ∀ {kvs : List (Key × V)} {es : List (PyData × PyData)} {i : Nat} {k : Key} {v : V}, RpK K H Z kvs es → kvs[i]? = some (k, v) → ∃ c d, es[i]? = some (c, d) ∧ keyD c = some k ∧ Rp K H Z v d
  | _, _, _, _, _, .nil, e => by simp at e
  | _, _, 0, _, _, .cons h0 h1 _, e => by simp at e; obtain ⟨rfl, rfl⟩ := e; exact ⟨_, _, rfl, h0, h1⟩
  | _, _, i + 1, _, _, .cons _ _ h2, e => by simpa using RpK.at' h2 (i := i) (by simpa using e)
theorem RpT.at' {Z : Addr → Prop} : ∀ {kvs : List (List Key × V)} {es : List (PyData × PyData)} {i : Nat} {k : List Key} {v : V}, RpT K H Z kvs es → kvs[i]? = some (k, v) → ∃ c d, es[i]? = some (c, d) ∧ tkD c = some k ∧ Rp K H Z v d
  | _, _, _, _, _, .nil, e => by simp at e
  | _, _, 0, _, _, .cons h0 h1 _, e => by simp at e; obtain ⟨rfl, rfl⟩ := e; exact ⟨_, _, rfl, h0, h1⟩
  | _, _, i + 1, _, _, .cons _ _ h2, e => by simpa using RpT.at' h2 (i := i) (by simpa using e)
theorem isit_k {a : Addr} {o : Obj} {kvs : List (Key × V)} {es : List (PyData × PyData)} (ha : H a = some (.frz o (.dK kvs))) {Z : Addr → Prop} (h : RpK K H Z kvs es) : IsIt K (Itk a o kvs) m n H ⟨es.map (·.1), []⟩ := by
  have hl : kvs.length = es.length := h.len
  refine ⟨fun i H2 m2 st2 f S l hi => ⟨f.frz _ _ _ ha, by simpa [hl] using hi⟩, fun H2 m2 st2 f S l => ⟨f.frz _ _ _ ha, by simp [hl]⟩, fun i H2 m2 st2 v H3 f S l hi y => ?_⟩
  obtain ⟨rfl, k, v', e, rfl⟩ := y
  obtain ⟨c, d, e1, e2, _⟩ := h.at' e
  exact ⟨fun _ _ h => h, c, by simp [e1], rp_key e2⟩
theorem isit_kt {a : Addr} {o : Obj} {kvs : List (List Key × V)} {es : List (PyData × PyData)} (ha : H a = some (.frz o (.dT kvs))) {Z : Addr → Prop} (h : RpT K H Z kvs es) : IsIt K (Itkt a o kvs) m n H ⟨es.map (·.1), []⟩ := by
  have hl : kvs.length = es.length := h.len
  refine ⟨fun i H2 m2 st2 f S l hi => ⟨f.frz _ _ _ ha, by simpa [hl] using hi⟩, fun H2 m2 st2 f S l => ⟨f.frz _ _ _ ha, by simp [hl]⟩, fun i H2 m2 st2 v H3 f S l hi y => ?_⟩
  obtain ⟨rfl, k, v', q, e, rfl, hq⟩ := y
  obtain ⟨c, d, e1, e2, _⟩ := h.at' e
  refine ⟨fun _ _ h => h, c, by simp [e1], ?_⟩
  cases c with
  | tuple ds => exact .tup (.inl hq) (rp_keys e2)
  | _ => cases e2
theorem isit_r {lo : Int} {c : Nat} : IsIt K (Itr lo c) m n H ⟨rangeD lo c, []⟩ := by
  refine ⟨fun i H2 m2 st2 f S l hi => by show i < c; simpa [rangeD] using hi, fun H2 m2 st2 f S l => by show c ≤ _; simp [rangeD], fun i H2 m2 st2 v H3 f S l hi y => ?_⟩
  obtain ⟨rfl, rfl⟩ := y
  exact ⟨fun _ _ h => h, .int (lo + (i : Nat)), by
    have hi : i < c := by simpa [rangeD] using hi
    simp [rangeD, hi], .int _⟩
end
/-! ### the rules -/
section
variable {M : Md} {X : Cx} {B : Tb} {k : Nat} {pins : List (Addr × Obj)} {σ : L2.St} {H : Hp} {s : Shared} {m : Mp} {env : En} {st : Sto} {W : WX} {pos p : Pos} {tg : Expr}
theorem PI.imp {e : Expr} {t t' : TI} (h : PI X tg e t) (q : ∀ σ H R, t' σ H R → t σ H R) : PI X tg e t' := ⟨fun pins s σ H R I x => h.run pins s σ H R I (q σ H R x)⟩
theorem di_seq {e : Expr} {ce : En → Sto → Rs Wv} (he : DE X e ce) : DI X tg e (cSeq ce) := by
  refine ⟨fun W tk => ⟨fun pins s σ H R I ⟨m, env, st, S, Re, hp⟩ => ?_⟩⟩
  unfold cSeq at hp
  rw [Rs.post_bind] at hp
  cases ec : ce env st with
  | no => rw [ec] at hp; exact hp.elim
  | ex x st1 =>
    rw [ec] at hp
    exact (pi_list (he.pe W tk)).run pins s σ H R I ⟨m, env, st, S, Re, by rw [ec]; exact hp⟩
  | ok w st1 =>
    rw [ec] at hp
    simp only [Rs.post_ok] at hp
    split at hp
    · rename_i x
      refine (pi_str (he.pe W tk)).run pins s σ H R I ⟨m, env, st, S, Re, ?_⟩
      rw [ec]
      intro v H1 m1 f1 S1 r1
      cases r1
      exact ⟨x, rfl, hp _ H1 m1 f1 S1 isit_s⟩
    · rename_i es
      refine (pi_keys (he.pe W tk)).run pins s σ H R I ⟨m, env, st, S, Re, ?_⟩
      rw [ec]
      intro v H1 m1 f1 S1 r1
      cases r1 with
      | dic h1 h2 => exact ⟨_, _, rfl, .inl ⟨_, h1, hp _ H1 m1 f1 S1 (isit_k h1 h2)⟩⟩
      | dit h1 h2 => exact ⟨_, _, rfl, .inr ⟨_, h1, hp _ H1 m1 f1 S1 (isit_kt h1 h2)⟩⟩
    · split at hp
      · rename_i sc esc
        have key : ∀ v H1 m1, Fol m st.length H m1 st1.length H1 → Sim X.K H1 m1 st1 → RW X.K H1 m1 st1.length v w → ∃ a q, v = .ref a ∧ HoldsAt X.K m1 st1.length H1 sc q a := fun v H1 m1 f1 S1 r1 => seqW_at S1 r1 esc
        by_cases hq : ∃ xs, w = .d (.tuple xs)
        · obtain ⟨xs, rfl⟩ := hq
          cases esc
          refine (pi_tup (he.pe W tk)).run pins s σ H R I ⟨m, env, st, S, Re, ?_⟩
          rw [ec]
          intro v H1 m1 f1 S1 r1
          cases r1 with
          | tup h1 h2 => exact ⟨_, rfl, ⟨_, h1.sq⟩, hp _ H1 m1 f1 S1 (isit_t ⟨fun H2 m2 st2 f S2 _ => ⟨_, f.kp.sqt h1.sq, h2.mv f.kp⟩⟩)⟩
        · refine (pi_list (he.pe W tk)).run pins s σ H R I ⟨m, env, st, S, Re, ?_⟩
          rw [ec]
          intro v H1 m1 f1 S1 r1
          unfold seqW at esc
          split at esc
          · cases esc
            cases r1 with
            | lst h1 h2 => exact ⟨_, rfl, ⟨_, h1.sq⟩, hp _ H1 m1 f1 S1 (isit_l ⟨fun H2 m2 st2 f S2 _ => ⟨_, (f.kp.ls h1).sq, h2.mv f.kp⟩⟩)⟩
          · exact absurd ⟨_, rfl⟩ hq
          · split at esc
            · rename_i i _ _ _ xs e1
              cases esc
              obtain ⟨us, h1, h2⟩ := S1.ob i _ e1
              refine ⟨m1.ix i, r1.2, ⟨us, .inl (.inl h1)⟩, hp _ H1 m1 f1 S1 (isit_l ⟨fun H2 m2 st2 f S2 l => ?_⟩)⟩
              rw [lvOk_one] at l
              obtain ⟨us2, g1, g2⟩ := S2.ob i _ l
              rw [f.old i r1.1] at g1
              exact ⟨us2, .inl (.inl g1), g2⟩
            · cases esc
          · cases esc
      · exact hp.elim
theorem rws1 {K : Frg} {n : Nat} {vs : List V} {w : Wv} (h : RWs K H m n vs [w]) : ∃ v, vs = [v] ∧ RW K H m n v w := by
  cases h with | cons h1 h2 => cases h2; exact ⟨_, rfl, h1⟩
theorem rgOk_iff {i : Int} (h : rgOk i = true) : -(2 ^ 62) ≤ i ∧ i < 2 ^ 62 := by
  unfold rgOk at h
  simpa using h
theorem di_range1 (c : Cxt M X B k) {a : Expr} {cs : En → Sto → Rs (List Wv)} (j : Nat) (hg : B.gs[j]? = some ("range" : Str)) (hm : M.mg "range" = none) (ha : DA X [a] cs) (hs : starEach [a] X.env = [(false, eval a X.env)] := by rfl) : DI X tg (.Call (.Name "range" p) [a] [] pos) (cRg1 cs) := by
  refine ⟨fun W tk => PI.imp (pi_range1 (c.gl j _ hg) (by rw [c.mg]; exact hm) (ha.pa W tk) hs) fun σ H R ⟨m, env, st, S, Re, hp⟩ => ?_⟩
  unfold cRg1 at hp
  rw [Rs.post_bind] at hp
  refine ⟨m, env, st, S, Re, Rs.post_mono hp (fun ws st1 q vs H1 m1 f1 S1 r1 => ?_) fun _ _ q => q⟩
  split at q
  · rename_i i
    split at q
    · rename_i hi
      obtain ⟨h1, h2⟩ := rgOk_iff hi
      obtain ⟨v, rfl, r⟩ := rws1 r1
      cases r
      exact ⟨i, rfl, h1, h2, q _ H1 m1 f1 S1 isit_r⟩
    · exact q.elim
  · exact q.elim
end
end
section
variable [Wtp] [Tbl]
section
variable {M : Md} {X : Cx} {B : Tb} {k : Nat} {pins : List (Addr × Obj)} {σ : L2.St} {H : Hp} {s : Shared} {m : Mp} {env : En} {st : Sto} {W : WX} {pos p tpos : Pos} {elts : List Expr} {kk : Nat}
/-! ## comprehensions -/
/-- the parts of a comprehension, its names at vs -/
structure LcOk (X : Cx) (elt tg iter : Expr) (ifs : List Expr) (scope : Scope) (own : List (Str × Nat)) (ci : En → Sto → Rs Sc) (g : Wv → En → Option En) (t : En → Sto → Rs Bool) (c : En → Sto → Rs Wv) : Prop where
  hi : DI X tg iter ci
  ok : BlkOk X.N X.env.scope scope own
  S0 : ∃ S0 : List Nat, (∀ i ∈ S0, i ∈ own.map (·.2)) ∧ ∀ (s : Shared) (H : Hp) (C : Addr) (cl : List (Str × Addr)) (fp : List Addr), DG (X.blk s H scope (compEnvC scope cl C X.env) fp) S0 tg g
  ht : ∀ (s : Shared) (H : Hp) (C : Addr) (cl : List (Str × Addr)) (fp : List Addr), DTs (X.blk s H scope (compEnvC scope cl C X.env) fp) ifs t
  he : ∀ (s : Shared) (H : Hp) (C : Addr) (cl : List (Str × Addr)) (fp : List Addr), DE (X.blk s H scope (compEnvC scope cl C X.env) fp) elt c
  hs : ∀ x, foldedSetIterable iter X.env x = pure x
theorem lc_ok (cx : Cxt M X B k) {elt tg iter : Expr} {ifs : List Expr} {scope : Scope} {ci : En → Sto → Rs Sc} {g : Wv → En → Option En} {t : En → Sto → Rs Bool} {c : En → Sto → Rs Wv} (own : List (Str × Nat)) (us ls : List Nat) (gs cs : List Str)
    (hb : blkT B us ls gs cs scope own = true) (hi : DI X tg iter ci) (hS : (ls.all fun i => (own.map (·.2)).contains i) = true)
    (hg : ∀ X' : Cx, Cxt M X' (B.blk us ls gs cs) k → DG X' ls tg g) (ht : ∀ X' : Cx, Cxt M X' (B.blk us ls gs cs) k → DTs X' ifs t)
    (he : ∀ X' : Cx, Cxt M X' (B.blk us ls gs cs) k → DE X' elt c) (hs : ∀ x, foldedSetIterable iter X.env x = pure x := by intro _; rfl) : LcOk X elt tg iter ifs scope own ci g t c :=
  ⟨hi, cx.blkOk hb, ⟨ls, fun i h => by simpa using (List.all_eq_true.mp hS) i h, fun s H C cl fp => hg _ (cx.blk hb s H C cl fp)⟩, fun s H C cl fp => ht _ (cx.blk hb s H C cl fp), fun s H C cl fp => he _ (cx.blk hb s H C cl fp), hs⟩
section
variable {elt tg iter : Expr} {ifs : List Expr} {scope : Scope} {own : List (Str × Nat)} {ci : En → Sto → Rs Sc} {g : Wv → En → Option En} {t : En → Sto → Rs Bool} {c : En → Sto → Rs Wv} {vs : List Nat}
theorem lcOk_tg {S0 : List Nat} (h : ∀ (s : Shared) (H : Hp) (C : Addr) (cl : List (Str × Addr)) (fp : List Addr), DG (X.blk s H scope (compEnvC scope cl C X.env) fp) S0 tg g) :
    ∀ (s : Shared) (H : Hp) (C : Addr) (cl : List (Str × Addr)) (fp : List Addr), PG (X.blk s H scope (compEnvC scope cl C X.env) fp) tg (fun v σ H Q => ∃ m n env w env', RW X.K H m n v w ∧ EnvR X.K H m n env σ ∧ g w env = some env' ∧ ∀ σ', EnvR X.K H m n env' σ' → But S0 σ σ' → Q σ' H) :=
  fun s H C cl fp => (h s H C cl fp).pg
theorem lc_data {Q : VK} {σ : L2.St} {S0 : List Nat} {tgt : TG} (hS : ∀ i ∈ S0, i ∈ vs)
    (htg : ∀ v σ H Q, (∃ m n env w env', RW X.K H m n v w ∧ EnvR X.K H m n env σ ∧ g w env = some env' ∧ ∀ σ', EnvR X.K H m n env' σ' → But S0 σ σ' → Q σ' H) → tgt v σ H Q) (h : tE X W (eLc ci g t c vs) σ H Q) : tLc (tI X W ci) tgt (tT X Wno t) (tE X Wno c) vs σ H Q := by
  obtain ⟨m, env, st, S, R, hp⟩ := h
  unfold eLc at hp
  rw [Rs.post_bind] at hp
  refine lc_tLc hS htg S R (Rs.post_mono hp (fun ys st1 q D H1 m1 xs hD f1 S1 F1 hx r1 => ?_) fun _ _ q => q)
  have kp : Kp X.K H1 (Off m1 st1.length) H1 (Off (m1.done D) st1.length) := ⟨fun _ _ h => h, fun _ _ _ h => h, fun a o _ h z => ⟨h, off_done a z⟩⟩
  exact q _ H1 (m1.done D) f1 (S1.sub rfl fun a z => z.1) (.lst (.inl ⟨hx, fun i hi e => S1.fi i hi (by rw [show m1.ix i = D from e]; exact F1), fun z => z.2 rfl⟩) (r1.mv kp))
theorem de_lc (cx : Cxt M X B k) (h : LcOk X elt tg iter ifs scope own ci g t c) : DE X (.ListComp elt [⟨tg, iter, ifs, 0⟩] scope pos) (eLc ci g t c (own.map (·.2))) := by
  obtain ⟨S0, hS, hg⟩ := h.S0
  exact ⟨fun W tk => PE.imp (pe_lc (wi := tI X W ci) (tt := tT X Wno t) (te := tE X Wno c) cx.calm (by rw [cx.hN]; exact cx.nd) (h.hi.pi W tk) h.ok (lcOk_tg hg) (fun s H C cl fp => (h.ht s H C cl fp).pts Wno takes_no) (fun s H C cl fp => (h.he s H C cl fp).pe Wno takes_no) h.hs) fun σ H Q q => lc_data hS (fun _ _ _ _ z => z) q⟩
end
end
end
section
variable [Wtp] [Tbl]
/-! ## a def and its calls -/
/-- what goes out of a def, the store's newer part being dropped -/
def frzW (n : Nat) (st : Sto) (w : Wv) : Option PyData := match w with
  | .d x => some x
  | .r i => if n ≤ i then match st[i]? with
    | some (.lst xs) => some (.list xs)
    | some (.dct es) => some (.dict es)
    | some (.dtt es) => some (.dict es)
    | some (.lkd es) => some (.dict es)
    | some (.lkl xs) => some (.list xs)
    | none => none
    else none
  | .x _ _ _ => none
def frzA (n : Nat) (st : Sto) : List Wv → Option (List PyData)
  | [] => some []
  | w :: r => match frzW n st w, frzA n st r with
    | some x, some xs => some (x :: xs)
    | _, _ => none
def endR (n : Nat) (st : Sto) : Rt → Rs Wv
  | .w (.d x) => .ok (.d x) (st.take n)
  | .w (.x _ _ _) => .no
  | .w (.r i) => if i < n then .ok (.r i) (st.take n) else match st[i]? with
    | some o => .ok (.r n) (st.take n ++ [o])
    | none => .no
  | .f w => match frzW n st w with
    | some x => .ok (.d x) (st.take n)
    | none => .no
  | .ft ws => match frzA n st ws with
    | some xs => .ok (.d (.tuple xs)) (st.take n)
    | none => .no
def endS (n : Nat) : SR → Rs Wv
  | .nx _ st => .ok (.d .none) (st.take n)
  | .rt p st => endR n st p
  | .ex e st => .ex e (st.take n)
  | .no => .no
/-- a def of np parameters and N names, by its body -/
def mkF (np N : Nat) (body : En → Sto → SR) : List Wv → Sto → Rs Wv := fun ws st => if ws.length = np then endS st.length (body (ws.map some ++ List.replicate (N - ws.length) none) st) else .no
structure Fnk (M : Md) (g : Bool) (k : Nat) (f : Addr) (fd : FuncData) (ps : List Str) (mf : List Wv → Sto → Rs Wv) : Prop where
  len : ∀ ws st Q E, (mf ws st).post Q E → ws.length = ps.length
  run : ∀ (A : Around) (outer : List Env) (s : Shared) (H : Hp) (args : Args) (us : List Value) (vs : List V) (ws : List Wv) (m : Mp) (st : Sto) (Q : VK) (E : XK), Room k A → (g = true → A.guards = some []) → Env0 M.P M.w M.K M.mg M.base A outer s H → BindsTo s fd args (ps.zip us) → Vals vs us →
    Sim M.K H m st → RWs M.K H m st.length vs ws →
    (mf ws st).post (fun w st' => ∀ v H' m', Fol m st.length H m' st'.length H' → Sim M.K H' m' st' → RW M.K H' m' st'.length v w → Q v H') (fun e st' => ∀ c d H' m', Fol m st.length H m' st'.length H' → Sim M.K H' m' st' → ExR M.K M.mg H' m' st'.length e c d → E c d H') →
    codeAny (model M.P M.w) A (.call (.ref f) args) (CR (L2.CX M.P M.w) outer M.P M.w H s Q E) s
theorem Fnk.mono {M : Md} {g : Bool} {j k : Nat} {f : Addr} {fd : FuncData} {ps : List Str} {mf : List Wv → Sto → Rs Wv} (F : Fnk M g j f fd ps mf) (h : j ≤ k) : Fnk M g k f fd ps mf :=
  ⟨F.len, fun A outer s H args us vs ws m st Q E hr => F.run A outer s H args us vs ws m st Q E (hr.mono h)⟩
section
variable {K : Frg} {H H' : Hp} {m m' : Mp} {st : Sto} {n n' : Nat}
theorem off_le {a : Addr} (h : n ≤ n') (z : Off m n' a) : Off m n a := ⟨fun i hi => z.1 i (Nat.lt_of_lt_of_le hi h), z.2⟩
theorem Kp.le (h : n ≤ n') : Kp K H (Off m n') H (Off m n) := ⟨fun _ _ q => q, fun _ _ _ q => q, fun a o _ q z => ⟨q, off_le h z⟩⟩
theorem Sim.take (S : Sim K H m st) (h : n ≤ st.length) : Sim K H m (st.take n) := by
  have hl : (st.take n).length = n := by rw [List.length_take]; omega
  refine ⟨fun i o e => ?_, fun i j hi hj => S.inj i j (by omega) (by omega), S.ff, fun i hi => S.fi i (by omega), S.tb⟩
  have hi : i < n := by have := (List.getElem?_eq_some_iff.mp e).1; omega
  rw [List.getElem?_take_of_lt hi] at e
  have q := S.ob i o e
  rw [hl]
  cases o with
  | lst xs => obtain ⟨vs, h1, h2⟩ := q; exact ⟨vs, h1, h2.mv (.le h)⟩
  | dct kvs => obtain ⟨vs, h1, h2⟩ := q; exact ⟨vs, h1, RpK.kp (.le h) _ _ h2⟩
  | dtt kvs => obtain ⟨vs, h1, h2⟩ := q; exact ⟨vs, h1, RpT.kp (.le h) _ _ h2⟩
  | lkd es => exact Rp.mv q (.le h)
  | lkl xs => exact FzL.mv q (.le h)
theorem Fol.back (f : Fol m n H m' n' H') : Fol m n H m' n H' := ⟨f.tup, f.frz, f.rest, f.old, fun i a b => absurd b (by omega), Nat.le_refl _, f.dom, f.eF⟩
/-- dicts at these places are pinned -/
def fzH (H : Hp) (as : List Addr) (os : Addr → Obj) : Hp := fun b => if b ∈ as then (match H b with
  | some (.dK ks) => some (.frz (os b) (.dK ks))
  | some (.dT ks) => some (.frz (os b) (.dT ks))
  | u => u) else H b
theorem fz_nil (H : Hp) (os : Addr → Obj) : fzH H [] os = H := by funext b; unfold fzH; simp
theorem fz_out {H : Hp} {as : List Addr} {os : Addr → Obj} {b : Addr} (h : b ∉ as) : fzH H as os b = H b := if_neg h
theorem fz_dK {H : Hp} {as : List Addr} {os : Addr → Obj} {b : Addr} {ks : List (Key × V)} (hb : b ∈ as) (h : H b = some (.dK ks)) : fzH H as os b = some (.frz (os b) (.dK ks)) := by unfold fzH; rw [if_pos hb, h]
theorem fz_dT {H : Hp} {as : List Addr} {os : Addr → Obj} {b : Addr} {ks : List (List Key × V)} (hb : b ∈ as) (h : H b = some (.dT ks)) : fzH H as os b = some (.frz (os b) (.dT ks)) := by unfold fzH; rw [if_pos hb, h]
theorem fz_same {H : Hp} {as : List Addr} {os : Addr → Obj} {b : Addr} {u : HO} (h : H b = some u) (h1 : ∀ ks, u ≠ .dK ks) (h2 : ∀ ks, u ≠ .dT ks) : fzH H as os b = some u := by
  unfold fzH
  split
  · rw [h]
    split
    · rename_i ks e; exact absurd (Option.some.inj e) (h1 ks)
    · rename_i ks e; exact absurd (Option.some.inj e) (h2 ks)
    · rfl
  · exact h
theorem fz_nn {H : Hp} {as : List Addr} {os : Addr → Obj} {b : Addr} (h : Nn H b) : Nn (fzH H as os) b := by
  obtain ⟨u, e, nt⟩ := h
  by_cases hk : (∃ ks, u = .dK ks) ∨ ∃ ks, u = .dT ks
  · by_cases hb : b ∈ as
    · rcases hk with ⟨ks, rfl⟩ | ⟨ks, rfl⟩
      · exact ⟨_, fz_dK hb e, fun _ z => nomatch z⟩
      · exact ⟨_, fz_dT hb e, fun _ z => nomatch z⟩
    · exact ⟨u, (fz_out hb).trans e, nt⟩
  · exact ⟨u, fz_same e (fun ks z => hk (.inl ⟨ks, z⟩)) (fun ks z => hk (.inr ⟨ks, z⟩)), nt⟩
theorem fz_tabs {T : List (Addr × Str)} {H : Hp} {as : List Addr} {os : Addr → Obj} (t : LamX.Tabs T H) : LamX.Tabs T (fzH H as os) := fun p hp => by
  obtain ⟨ps, h1, h2, h3⟩ := t p hp
  refine ⟨ps, fz_same h1 (fun _ z => nomatch z) (fun _ z => nomatch z), h2, fun pos cv hc => ?_⟩
  obtain ⟨c, e, hq⟩ := h3 pos cv hc
  exact ⟨c, e, fz_same hq (fun _ z => nomatch z) (fun _ z => nomatch z)⟩
theorem fz_kp {H : Hp} {as : List Addr} {os : Addr → Obj} {Z Z' : Addr → Prop} (h : ∀ a, Z a → Z' a) : Kp K H Z (fzH H as os) Z' :=
  ⟨fun a xs e => fz_same e (fun _ z => nomatch z) (fun _ z => nomatch z), fun a o u e => fz_same e (fun _ z => nomatch z) (fun _ z => nomatch z), fun a o ⟨xs, ho⟩ e z => ⟨by subst ho; exact fz_same e (fun _ z => nomatch z) (fun _ z => nomatch z), h a z⟩⟩
theorem freezeAll {X : Cx} {pins : List (Addr × Obj)} {σ : L2.St} {s : Shared} (I : Inv X pins σ H s) : ∀ as : List Addr, ∃ os, Inv X pins σ (fzH H as os) s
  | [] => ⟨fun _ => { cls := .none, data := .plain }, by rw [fz_nil]; exact I⟩
  | a :: as => by
    obtain ⟨os, J⟩ := freezeAll I as
    by_cases ha : a ∈ as
    · refine ⟨os, ?_⟩
      rw [show fzH H (a :: as) os = fzH H as os from by
        funext b
        unfold fzH
        by_cases hb : b ∈ as
        · rw [if_pos (List.mem_cons_of_mem _ hb), if_pos hb]
        · rw [if_neg hb, if_neg (fun z => by rcases List.mem_cons.mp z with rfl | z <;> contradiction)]]
      exact J
    · have go : ∀ u, H a = some u → ((∃ ks, u = .dK ks) ∨ ∃ ks, u = .dT ks) → ∃ os, Inv X pins σ (fzH H (a :: as) os) s := fun u e hu => by
        obtain ⟨o, J2⟩ := Inv.freeze J (a := a) (u := u) (by rw [fz_out ha]; exact e) hu
        refine ⟨fun b => if b = a then o else os b, ?_⟩
        rw [show fzH H (a :: as) (fun b => if b = a then o else os b) = upd (fzH H as os) a (.frz o u) from by
          funext b
          by_cases hb : b = a
          · subst hb
            rw [upd_same]
            rcases hu with ⟨ks, rfl⟩ | ⟨ks, rfl⟩
            · rw [fz_dK (List.mem_cons_self ..) e, if_pos rfl]
            · rw [fz_dT (List.mem_cons_self ..) e, if_pos rfl]
          · rw [upd_ne hb]
            unfold fzH
            by_cases hb2 : b ∈ as
            · rw [if_pos (List.mem_cons_of_mem _ hb2), if_pos hb2]
              split <;> simp_all
            · rw [if_neg hb2, if_neg (fun z => by rcases List.mem_cons.mp z with rfl | z <;> contradiction)]]
        exact J2
      by_cases hk : ∃ u, H a = some u ∧ ((∃ ks, u = .dK ks) ∨ ∃ ks, u = .dT ks)
      · obtain ⟨u, e, hu⟩ := hk
        exact go u e hu
      · refine ⟨os, ?_⟩
        rw [show fzH H (a :: as) os = fzH H as os from by
          funext b
          by_cases hb : b = a
          · subst hb
            rw [fz_out ha]
            cases e : H b with
            | none => unfold fzH; rw [if_pos (List.mem_cons_self ..), e]
            | some u => exact fz_same e (fun ks z => hk ⟨u, e, .inl ⟨ks, z⟩⟩) (fun ks z => hk ⟨u, e, .inr ⟨ks, z⟩⟩)
          · unfold fzH
            by_cases hb2 : b ∈ as
            · rw [if_pos (List.mem_cons_of_mem _ hb2), if_pos hb2]
            · rw [if_neg hb2, if_neg (fun z => by rcases List.mem_cons.mp z with rfl | z <;> contradiction)]]
        exact J
def asOf (m : Mp) : Wv → List Addr
  | .r i => [m.ix i]
  | _ => []
/-- only what is newer than n is pinned -/
def AsNew (m : Mp) (n n' : Nat) (as : List Addr) : Prop := ∀ a ∈ as, ∃ i, n ≤ i ∧ i < n' ∧ m.ix i = a
theorem rw_frz {v : V} {w : Wv} {x : PyData} {as : List Addr} {os : Addr → Obj} (S : Sim K H m st) (hn : n ≤ st.length) (r : RW K H m st.length v w) (e : frzW n st w = some x) (ha : ∀ a ∈ asOf m w, a ∈ as) : Rp K (fzH H as os) (Off m n) v x := by
  have kp : Kp K H (Off m st.length) (fzH H as os) (Off m n) := fz_kp fun a z => off_le hn z
  unfold frzW at e
  split at e
  · cases e; exact Rp.mv r kp
  · rename_i i
    split at e
    · rename_i hi
      have hz : Off m n (m.ix i) := ⟨fun j hj q => by have := S.inj j i (by omega) r.1 q; omega, S.fi i r.1⟩
      rw [r.2]
      split at e
      · rename_i xs e1
        cases e
        obtain ⟨vs, h1, h2⟩ := S.ob i _ e1
        exact .lst (.inl ⟨fz_same h1 (fun _ z => nomatch z) (fun _ z => nomatch z), hz⟩) (h2.mv kp)
      · rename_i es e1
        cases e
        obtain ⟨vs, h1, h2⟩ := S.ob i _ e1
        exact .dic (fz_dK (ha _ (by simp [asOf])) h1) (RpK.kp kp _ _ h2)
      · rename_i es e1
        cases e
        obtain ⟨vs, h1, h2⟩ := S.ob i _ e1
        exact .dit (fz_dT (ha _ (by simp [asOf])) h1) (RpT.kp kp _ _ h2)
      · rename_i es e1
        cases e
        exact Rp.mv (show Rp K H (Off m st.length) (.ref (m.ix i)) (.dict es) from S.ob i _ e1) kp
      · rename_i xs e1
        cases e
        exact (FzL.mv (show FzL K H (Off m st.length) (m.ix i) xs from S.ob i _ e1) kp).rp
      · cases e
    · cases e
  · cases e
theorem rws_frz {as : List Addr} {os : Addr → Obj} : ∀ {vs : List V} {ws : List Wv} {xs : List PyData} (S : Sim K H m st) (hn : n ≤ st.length) (r : RWs K H m st.length vs ws) (e : frzA n st ws = some xs) (ha : ∀ a ∈ ws.flatMap (asOf m), a ∈ as), RpA K (fzH H as os) (Off m n) vs xs
  | _, _, _, S, hn, .nil, e, _ => by cases e; exact .nil
  | _, _, _, S, hn, .cons r1 r2, e, ha => by
    unfold frzA at e
    split at e
    · rename_i x xs e1 e2
      cases e
      exact .cons (rw_frz S hn r1 e1 fun a h => ha a (by simp [h])) (rws_frz S hn r2 e2 fun a h => ha a (by simp only [List.flatMap_cons, List.mem_append]; exact .inr h))
    · cases e
/-- the same without dicts of the store -/
def frzL (n : Nat) (st : Sto) (w : Wv) : Option PyData := match w with
  | .d x => some x
  | .r i => if n ≤ i then match st[i]? with
    | some (.lst xs) => some (.list xs)
    | _ => none
    else none
  | .x _ _ _ => none
theorem rl_frz {v : V} {w : Wv} {x : PyData} (S : Sim K H m st) (hn : n ≤ st.length) (r : RW K H m st.length v w) (e : frzL n st w = some x) : Rp K H (Off m n) v x := by
  unfold frzL at e
  split at e
  · cases e; exact Rp.mv r (.le hn)
  · rename_i i
    split at e
    · rename_i hi
      have hz : Off m n (m.ix i) := ⟨fun j hj q => by have := S.inj j i (by omega) r.1 q; omega, S.fi i r.1⟩
      rw [r.2]
      split at e
      · rename_i xs e1
        cases e
        obtain ⟨vs, h1, h2⟩ := S.ob i _ e1
        exact .lst (.inl ⟨h1, hz⟩) (h2.mv (.le hn))
      · cases e
    · cases e
  · cases e
def newA (n : Nat) (m : Mp) : Wv → List Addr
  | .r i => if n ≤ i then [m.ix i] else []
  | _ => []
theorem newA_new {n n' : Nat} {w : Wv} (h : ∀ i, w = .r i → i < n') : AsNew m n n' (newA n m w) := fun a ha => by
  cases w with
  | d x => cases ha
  | x a c d => cases ha
  | r i =>
    by_cases hi : n ≤ i
    · simp only [newA, if_pos hi, List.mem_singleton] at ha
      exact ⟨i, hi, h i rfl, ha.symm⟩
    · simp only [newA, if_neg hi] at ha
      cases ha
theorem newA_all {w : Wv} {x : PyData} (e : frzW n st w = some x) : ∀ a ∈ asOf m w, a ∈ newA n m w := fun a ha => by
  cases w with
  | d x => cases ha
  | x a c d => cases ha
  | r i =>
    by_cases hi : n ≤ i
    · simp only [newA, if_pos hi]; exact ha
    · simp only [frzW, if_neg hi] at e
      cases e
theorem newAs_new {n n' : Nat} : ∀ {vs : List V} {ws : List Wv}, RWs K H m n' vs ws → AsNew m n n' (ws.flatMap (newA n m))
  | _, _, .nil => fun a ha => by cases ha
  | _, _, .cons r1 r2 => fun a ha => by
    rw [List.flatMap_cons, List.mem_append] at ha
    rcases ha with ha | ha
    · exact newA_new (fun i e => by subst e; exact r1.1) a ha
    · exact newAs_new r2 a ha
theorem frzA_mem : ∀ {ws : List Wv} {xs : List PyData}, frzA n st ws = some xs → ∀ w ∈ ws, ∃ x, frzW n st w = some x
  | [], _, _, w, hw => by cases hw
  | u :: r, xs, e, w, hw => by
    unfold frzA at e
    split at e
    · rename_i x ys e1 e2
      rcases List.mem_cons.mp hw with rfl | hw
      · exact ⟨x, e1⟩
      · exact frzA_mem e2 w hw
    · cases e
theorem Sim.fz' {as : List Addr} {os : Addr → Obj} (S : Sim K H m st) (h : n ≤ st.length) (hA : ∀ i, i < n → m.ix i ∉ as) : Sim K (fzH H as os) m (st.take n) := by
  have T := S.take h
  have hl : (st.take n).length = n := by rw [List.length_take]; omega
  have kp : Kp K H (Off m (st.take n).length) (fzH H as os) (Off m (st.take n).length) := fz_kp fun a z => z
  refine ⟨fun i o e => ?_, T.inj, fun a z => fz_nn (T.ff a z), T.fi, ?_⟩
  · have hi : i < n := by have := (List.getElem?_eq_some_iff.mp e).1; omega
    have no : m.ix i ∉ as := hA i hi
    have q := T.ob i o e
    cases o with
    | lst xs => obtain ⟨vs, h1, h2⟩ := q; exact ⟨vs, by rw [fz_out no]; exact h1, h2.mv kp⟩
    | dct kvs => obtain ⟨vs, h1, h2⟩ := q; exact ⟨vs, by rw [fz_out no]; exact h1, RpK.kp kp _ _ h2⟩
    | dtt kvs => obtain ⟨vs, h1, h2⟩ := q; exact ⟨vs, by rw [fz_out no]; exact h1, RpT.kp kp _ _ h2⟩
    | lkd es => exact Rp.mv q kp
    | lkl xs => exact FzL.mv q kp
  · exact fz_tabs T.tb
theorem Sim.fz {as : List Addr} {os : Addr → Obj} (S : Sim K H m st) (h : n ≤ st.length) (hA : AsNew m n st.length as) : Sim K (fzH H as os) m (st.take n) := S.fz' h fun i hi z => by
  obtain ⟨j, h1, h2, h3⟩ := hA _ z
  have := S.inj j i h2 (by omega) h3
  omega
theorem Fol.fz {as : List Addr} {os : Addr → Obj} (f : Fol m n H m' n' H') (hA : AsNew m' n n' as) : Fol m n H m' n' (fzH H' as os) := by
  have no : ∀ {a}, Nn H a → a ∉ as := fun {a} h z => by
    obtain ⟨i, h1, h2, h3⟩ := hA _ z
    exact f.new i h1 h2 (h3 ▸ h)
  exact ⟨fun a xs e => fz_same (f.tup a xs e) (fun _ z => nomatch z) (fun _ z => nomatch z), fun a o u e => fz_same (f.frz a o u e) (fun _ z => nomatch z) (fun _ z => nomatch z), fun a o nt e z => by rw [fz_out (no ⟨o, e, nt⟩)]; exact f.rest a o nt e z, f.old, f.new, f.le, fun a h => fz_nn (f.dom a h), f.eF⟩
/-- a newer object becomes the next one -/
theorem Sim.keep1 {i : Nat} {o : Ob} (S : Sim K H m st) (hn : n ≤ i) (e : st[i]? = some o) : Sim K H (mup m n (m.ix i)) (st.take n ++ [o]) := by
  have hi : i < st.length := (List.getElem?_eq_some_iff.mp e).1
  have hl : (st.take n).length = n := by rw [List.length_take]; omega
  have hl2 : (st.take n ++ [o]).length = n + 1 := by simp [hl]
  have hx : ∀ j, j < n → m.ix j ≠ m.ix i := fun j hj q => by have := S.inj j i (by omega) hi q; omega
  have kp : Kp K H (Off m st.length) H (Off (mup m n (m.ix i)) (n + 1)) := ⟨fun _ _ q => q, fun _ _ _ q => q, fun a o _ q z => ⟨q, fun j hj e2 => by
    by_cases q : j < n
    · rw [mup_old q] at e2; exact z.1 j (by omega) e2
    · rw [show j = n by omega, mup_new] at e2; exact z.1 i hi e2
  , z.2⟩⟩
  refine ⟨fun j u e2 => ?_, fun j l hj hk e2 => ?_, S.ff, fun j hj => ?_, S.tb⟩
  · rw [hl2]
    by_cases q : j < n
    · rw [List.getElem?_append_left (by omega), List.getElem?_take_of_lt q] at e2
      have h := S.ob j u e2
      rw [mup_old q]
      cases u with
      | lst xs => obtain ⟨vs, h1, h2⟩ := h; exact ⟨vs, h1, h2.mv kp⟩
      | dct kvs => obtain ⟨vs, h1, h2⟩ := h; exact ⟨vs, h1, RpK.kp kp _ _ h2⟩
      | dtt kvs => obtain ⟨vs, h1, h2⟩ := h; exact ⟨vs, h1, RpT.kp kp _ _ h2⟩
      | lkd es => exact Rp.mv h kp
      | lkl xs => exact FzL.mv h kp
    · have ej : j = n := by have := (List.getElem?_eq_some_iff.mp e2).1; omega
      subst ej
      rw [List.getElem?_append_right (by omega), hl] at e2
      simp at e2
      subst e2
      rw [mup_new]
      have h := S.ob i o e
      cases o with
      | lst xs => obtain ⟨vs, h1, h2⟩ := h; exact ⟨vs, h1, h2.mv kp⟩
      | dct kvs => obtain ⟨vs, h1, h2⟩ := h; exact ⟨vs, h1, RpK.kp kp _ _ h2⟩
      | dtt kvs => obtain ⟨vs, h1, h2⟩ := h; exact ⟨vs, h1, RpT.kp kp _ _ h2⟩
      | lkd es => exact Rp.mv h kp
      | lkl xs => exact FzL.mv h kp
  · rw [hl2] at hj hk
    by_cases q : j < n
    · by_cases q2 : l < n
      · rw [mup_old q, mup_old q2] at e2; exact S.inj j l (by omega) (by omega) e2
      · rw [mup_old q, show l = n by omega, mup_new] at e2; exact absurd e2 (hx j q)
    · by_cases q2 : l < n
      · rw [show j = n by omega, mup_new, mup_old q2] at e2; exact absurd e2.symm (hx l q2)
      · omega
  · rw [hl2] at hj
    by_cases q : j < n
    · rw [mup_old q]; exact S.fi j (by omega)
    · rw [show j = n by omega, mup_new]; exact S.fi i hi
theorem Fol.keep1 {i : Nat} (f : Fol m n H m' n' H') (hi : n ≤ i) (hi2 : i < n') : Fol m n H (mup m' n (m'.ix i)) (n + 1) H' where
  tup := f.tup
  frz := f.frz
  rest := f.rest
  old j hj := by rw [mup_old hj]; exact f.old j hj
  new j h1 h2 := by rw [show j = n by omega, mup_new]; exact f.new i hi hi2
  le := Nat.le_succ n
  dom := f.dom
  eF := f.eF
end
/-- what a scope must tell -/
def fnT (B : Tb) (sc : Scope) : Bool :=
  (B.us.all fun i => match B.N[i]? with | some x => kdV (sc.names.lookup x) | none => true) &&
  ((B.ls.all fun i => match B.N[i]? with | some x => kdL (sc.names.lookup x) | none => true) &&
  ((B.ps.all fun i => match B.N[i]? with | some x => decide (sc.names.lookup x = some .local) | none => true) &&
  ((B.gs.all fun x => kdG (sc.names.lookup x)) && ((B.cs.all fun x => kdC (sc.names.lookup x)) && B.fn))))
theorem kdV_vis {sc : Scope} {x : Str} (h : kdV (sc.names.lookup x) = true) : Vis sc x := by
  unfold kdV at h
  split at h
  · exact .inl (by assumption)
  · exact .inr (.inl (by assumption))
  · exact .inr (.inr (by assumption))
  · cases h
theorem kdL_loc {sc : Scope} {x : Str} (h : kdL (sc.names.lookup x) = true) : Loc sc x := by
  unfold kdL at h
  split at h
  · exact .inl (by assumption)
  · exact .inr (by assumption)
  · cases h
theorem kdC_cap {sc : Scope} {x : Str} (h : kdC (sc.names.lookup x) = true) : sc.names.lookup x = some .cell ∨ sc.names.lookup x = some .free := by
  unfold kdC at h
  split at h
  · exact .inl (by assumption)
  · exact .inr (by assumption)
  · cases h
theorem kdG_gl {sc : Scope} {x : Str} (h : kdG (sc.names.lookup x) = true) : sc.names.lookup x = some .globalImplicit := by
  unfold kdG at h
  split at h
  · assumption
  · cases h
theorem SR.post_end {x : SR} {n : Nat} {Q : Wv → Sto → Prop} {E : Xc → Sto → Prop} (h : (endS n x).post Q E) : x.post (fun _ st => Q (.d .none) (st.take n)) (fun p st => (endR n st p).post Q E) (fun e st => E e (st.take n)) := by
  cases x with
  | nx env st => exact h
  | rt p st => exact h
  | ex e st => exact h
  | no => exact h
/-- a def, by its body -/
theorem fnk_of {M : Md} {B : Tb} {k : Nat} {f : Addr} {name qual : Str} {params : Arguments} {body : List Stmt} {scope : Scope} {dV kV doc pm cdv ct oc : Value} {an od : Option Addr} {osl : Array (Option Value)} {ps : List Str} {cb : En → Sto → SR} {np nN : Nat}
    (hf : M.K.lookup f = some ⟨oc, od, .func (PySem.W.fnOf name qual params body scope dV kV doc pm an cdv ct), osl⟩) (hcode : PySem.W.codeIn M.K cdv qual = true) (SC : FnScope B.N ps scope) (hT : fnT B scope = true) (hnp : ps.length = np) (hnN : B.N.length = nN)
    (hb : ∀ X : Cx, Cxt M X B k → DB X body cb) (hlam : ∀ q, B.lq = some q → (qual ++ ".<locals>.") ++ "<lambda>" = q ∧ LamC M.mg M.base q cdv := by intro _ h; exact nomatch (show (none : Option Str) = some _ from h)) : Fnk M B.gd (k + 1) f (PySem.W.fnOf name qual params body scope dV kV doc pm an cdv ct) ps (mkF np nN cb) := by
  have arity : ∀ ws st Q E, (mkF np nN cb ws st).post Q E → ws.length = ps.length := fun ws st Q E h => by
    unfold mkF at h
    split at h
    · rw [hnp]; assumption
    · exact h.elim
  refine ⟨arity, fun A outer s H args us vs ws m st Q E room guard e0 bound rv S rw0 hp => ?_⟩
  have hwl := arity _ _ _ _ hp
  have hvl : vs.length = ps.length := rw0.len.trans hwl
  have inK : M.K.In s.heap := e0.mod.kin.keeps fun b o e => (e0.bs b o e).1
  have noLim : s.heap.NoLimit := e0.mod.nolimit.keeps fun b o e => (e0.bs b o e).1
  have kinds : ∀ y ∈ ps.zip us, scope.names.lookup y.1 = some .local ∨ (scope.names.lookup y.1 = some .cell ∧ ((cellsFrom (s.heap.objs.size + 1) scope.names []).lookup y.1).isSome = true) := by
    rintro ⟨y, v⟩ hy
    have hy' := SC.par y (List.of_mem_zip hy).1
    exact hy'.imp id fun q => ⟨q, PySem.W.cellsFrom_some _ _ _ (.inl q)⟩
  refine codeAny_call_function room.depth (inK _ _ hf) rfl SC.co SC.gen rfl (PySem.W.codeRec_of inK hcode) (bound _ _ _ _ (wpAny_newFunctionEnv_cells SC.kind kinds fun env henv s1 x => ?_))
  subst henv
  refine ⟨noLim.keeps x.toInCall.keep, codeAny_func ?_⟩
  generalize hX : cxOf (L2.CX M.P M.w) M.P M.w M.K M.mg M.base B.N qual scope f cdv A outer s H E = X
  have hI : Inv X [] (start B.N vs) H s1 := by rw [← hX]; exact inv_start SC room.hd e0 hvl rv x
  unfold fnT at hT
  simp only [Bool.and_eq_true, List.all_eq_true, decide_eq_true_eq] at hT
  obtain ⟨t1, t2, t3, t4, t5, t6⟩ := hT
  have hC : Cxt M X B k := by
    subst hX
    refine ⟨rfl, rfl, rfl, rfl, rfl, rfl, SC.nd, rfl, fun _ => SC.kind, room.deeper _, guard, fun i hi x hx => ?_, fun i hi x hx => ?_, fun i hi x hx => ?_, fun j x hx => kdG_gl (t4 x (List.mem_of_getElem? hx)), fun x hx => kdC_cap (t5 x hx), fun _ => passes_of rfl, hlam, fun _ => ⟨rfl, rfl⟩⟩
    · have q := t1 i hi
      rw [hx] at q
      exact kdV_vis q
    · have q := t2 i hi
      rw [hx] at q
      exact ⟨kdL_loc q, .inl rfl⟩
    · have q := t3 i hi
      rw [hx] at q
      exact of_decide_eq_true q
  have tk : Takes X (fun c d _ H' => E c d H') := by subst hX; exact takes_of rfl rfl rfl rfl
  have hR : EnvR X.K H m st.length (ws.map some ++ List.replicate (nN - ws.length) none) (start B.N vs) := by
    refine ⟨?_, fun i w hw => ?_⟩
    · unfold L2.start; simp [rw0.len, hnN]
    · have hi : i < ws.length := by
        rcases Nat.lt_or_ge i ws.length with z | z
        · exact z
        · rw [List.getElem?_append_right (by simpa using z)] at hw
          have := List.mem_of_getElem? hw
          simp at this
      rw [List.getElem?_append_left (by simpa using hi)] at hw
      have get : ∀ {vs : List V} {ws : List Wv} {i : Nat} {w : Wv}, RWs M.K H m st.length vs ws → ws[i]? = some w → ∃ v, vs[i]? = some v ∧ RW M.K H m st.length v w := by
        intro vs ws i w r
        induction r generalizing i with
        | nil => intro e; simp at e
        | cons r1 _ ih =>
          intro e
          cases i with
          | zero => simp at e; subst e; exact ⟨_, rfl, r1⟩
          | succ i => simpa using ih (by simpa using e)
      obtain ⟨v, hv, r⟩ := get rw0 (i := i) (w := w) (by simpa [hi] using hw)
      refine ⟨v, ?_, by subst hX; exact r⟩
      unfold L2.start
      rw [List.getElem?_append_left (by have := (List.getElem?_eq_some_iff.mp hv).1; simpa using this)]
      simp [hv]
  have hK : X.K = M.K := hC.hK
  have hmg : X.mg = M.mg := hC.mg
  have run := ((hb X hC).pss _ tk).run [] s1 (start B.N vs) H { nx := fun _ H' => Q .non H', rt := fun v H' => ∃ as, ∀ os, Q v (fzH H' as os) } hI
  unfold mkF at hp
  rw [if_pos (hwl.trans hnp)] at hp
  have hp2 := SR.post_end hp
  have fin : ∀ {σ' : L2.St} {H' : Hp} {v : V} {u : Value} {s' : Shared}, Inv X [] σ' H' s' → RelV v u → Q v H' → CE outer M.P M.w H s Q u s' := fun {σ' H' v u s'} J rv q => by
    subst hX
    exact ⟨v, H', J.os, J.bare, J.base, J.hok, rv, q⟩
  have hA : X.A = A.deeper (envOfC qual scope s.heap.objs.size f cdv) := by rw [← hX]; rfl
  have hxe : ∀ e s', X.xe e s' = wpAny (model M.P M.w) (A.deeper (envOfC qual scope s.heap.objs.size f cdv)) (leaving (envOfC qual scope s.heap.objs.size f cdv) e) (fun _ s'' => L2.CX M.P M.w outer H s E e s'') (fun e' s'' => L2.CX M.P M.w outer H s E e' s'') s' := fun e s' => by rw [← hX]; rfl
  have run2 := run ⟨m, _, st, by rw [hK]; exact S, hR, SR.post_mono hp2 (fun env st' q σ' H' m' f S' _ => ?_) (fun p st' q v H' m' f S' r => ?_) fun e st' q c d σ' H' m' f S' r => ?_⟩
  · subst hX
    refine wpAny_mono run2 (fun fl s' hs => ?_) fun e s' hs => hs
    cases fl with
    | ret u => obtain ⟨v, σ', H', J, rv, as, q⟩ := hs; obtain ⟨os, J2⟩ := freezeAll J as; exact fin J2 rv (q os)
    | next => obtain ⟨σ', H', J, q⟩ := hs; exact fin (v := V.non) (u := Value.none) J rfl q
    | brk => obtain ⟨_, _, _, q⟩ := hs; exact q.elim
    | cont => obtain ⟨_, _, _, q⟩ := hs; exact q.elim
  · have tl : (st'.take st.length).length = st.length := by rw [List.length_take]; have := f.le; omega
    rw [hK] at S'
    exact q .non H' m' (by rw [tl]; exact f.back) (S'.take f.le) .non
  · have tl : (st'.take st.length).length = st.length := by rw [List.length_take]; have := f.le; omega
    rw [hK] at S' r
    have plain : Q v H' → ∃ as, ∀ os, Q v (fzH H' as os) := fun z => ⟨[], fun os => by rw [fz_nil]; exact z⟩
    unfold endR at q
    split at q
    · exact plain (q _ H' m' (by rw [tl]; exact f.back) (S'.take f.le) (by rw [tl]; exact Rp.mv r (.le f.le)))
    · exact q.elim
    · rename_i i
      split at q
      · rename_i hi
        exact plain (q _ H' m' (by rw [tl]; exact f.back) (S'.take f.le) (by rw [tl]; exact ⟨hi, r.2⟩))
      · rename_i hi
        split at q
        · rename_i o eo
          have tl2 : (st'.take st.length ++ [o]).length = st.length + 1 := by simp [tl]
          exact plain (q _ H' (mup m' st.length (m'.ix i)) (by rw [tl2]; exact f.keep1 (by omega) r.1) (S'.keep1 (by omega) eo) (by rw [tl2]; exact ⟨Nat.lt_succ_self _, by rw [mup_new]; exact r.2⟩))
        · exact q.elim
    · rename_i w
      split at q
      · rename_i x ex
        have hA : AsNew m' st.length st'.length (newA st.length m' w) := newA_new (fun i e => by subst e; exact r.1)
        exact ⟨newA st.length m' w, fun os => q _ _ m' (by rw [tl]; exact (f.fz hA).back) (S'.fz f.le hA) (by rw [tl]; exact rw_frz S' f.le r ex (newA_all ex))⟩
      · exact q.elim
    · rename_i ws
      split at q
      · rename_i xs ex
        obtain ⟨a, us', rfl, h1, h2⟩ := r
        have hA : AsNew m' st.length st'.length (ws.flatMap (newA st.length m')) := newAs_new h2
        exact ⟨ws.flatMap (newA st.length m'), fun os => q _ _ m' (by rw [tl]; exact (f.fz hA).back) (S'.fz f.le hA) (by rw [tl]; exact .tup (.inl (fz_same h1 (fun _ z => nomatch z) (fun _ z => nomatch z))) (rws_frz S' f.le h2 ex fun a ha => by
          obtain ⟨w, hw, hb⟩ := List.mem_flatMap.mp ha
          obtain ⟨x, ex2⟩ := frzA_mem ex w hw
          exact List.mem_flatMap.mpr ⟨w, hw, newA_all ex2 a hb⟩))⟩
      · exact q.elim
  · have tl : (st'.take st.length).length = st.length := by rw [List.length_take]; have := f.le; omega
    rw [hK] at S' r
    rw [hmg] at r
    refine q c d H' m' (by rw [tl]; exact f.back) (S'.take f.le) ⟨r.cls, ?_⟩
    rw [tl]
    rcases r.fld with z | ⟨dd, h1, fs, h2, h3, h4, h5⟩
    · exact .inl z
    · exact .inr ⟨dd, h1, fs, h2, h3, h4.mv (.le f.le), off_le f.le h5⟩
def eCall (mf : List Wv → Sto → Rs Wv) (cs : En → Sto → Rs (List Wv)) : En → Sto → Rs Wv := fun env st => (cs env st).bind mf
section
variable {M : Md} {X : Cx} {B : Tb} {k : Nat} {f : Addr} {fd : FuncData} {ps : List Str} {mf : List Wv → Sto → Rs Wv} {cs : En → Sto → Rs (List Wv)} {x : Str} {p pos : Pos} {e : Expr} {es : List Expr}
theorem de_call {g : Bool} (c : Cxt M X B k) (F : Fnk M g k f fd ps mf) (j : Nat) (hg : B.gs[j]? = some x) (hm : M.mg x = some (.ref f)) (hk : PySem.W.keepIn M.K (.ref f) = true) (hb : Binds M.K fd ps []) (ha : DA X (e :: es) cs) (hgd : g = true → B.gd = true) (hdb : (x == ("__debug__" : Str)) = false := by decide)
    (he : starEach (e :: es) X.env = (false, eval e X.env) :: starEach es X.env := by rfl) (hpl : (backTo pos (starEach es X.env)).any (·.1) = false := by rfl) : DE X (.Call (.Name x p) (e :: es) [] pos) (eCall mf cs) := by
  obtain ⟨P, w, K, mg, base⟩ := M
  obtain ⟨rfl, rfl, rfl, rfl, rfl⟩ : X.prog = P ∧ X.w = w ∧ X.K = K ∧ X.mg = mg ∧ X.base = base := ⟨c.hP, c.hw, c.hK, c.mg, c.hb⟩
  refine .mk' fun W pins σ H s m env st Q tk I S R hp => ?_
  unfold eCall at hp
  rw [Rs.post_bind] at hp
  refine wpAny_Call_Name_kw (ld_glob I (c.gl j x hg) hm ?_ hdb)
  refine PySem.W.callWith_K (h₀ := X.base) I.ok.mod.kin hk (ha.go tk I S R pos (Rs.post_mono hp (fun ws st1 q vs H1 m1 us s1 I1 rv f1 S1 r1 => ⟨I1.kIn, ?_⟩) fun _ _ q => q)) he hpl
  have hl : us.length = ps.length := by rw [← rv.length, r1.len]; exact F.len _ _ _ _ q
  have bd := hb s1 us I1.kIn (by rw [List.append_nil]; exact hl)
  rw [List.append_nil] at bd
  refine wpAny_call (codeAny_mono (F.run X.A X.stack s1 H1 ⟨us, []⟩ us vs ws m1 st1 (fun v H' => ∀ u s', Inv X pins σ H' s' → RelV v u → Q u s') (WE W σ) c.room (fun z => c.gu (hgd z)) I1.env0 bd rv S1 r1 (Rs.post_mono q (fun w st2 q2 v H2 m2 f2 S2 r2 u s2 I2 rv2 => ?_) fun e st2 q2 c d H2 m2 f2 S2 r2 => ?_)) fun r s2 hq => ?_)
  · exact q2 v H2 m2 u s2 I2 rv2 (f1.trans f2) S2 r2
  · exact q2 c d H2 m2 (f1.trans f2) S2 r2
  · cases r with
    | error e => exact passAt tk σ pins H1 s1 e s2 I1 hq
    | ok fl =>
      cases fl with
      | ret u =>
        obtain ⟨v, H2, I2, rv2, q2⟩ := I1.after hq
        exact q2 u s2 I2 rv2
      | next => exact False.elim hq
      | brk => exact False.elim hq
      | cont => exact False.elim hq
end
end
section
variable [Wtp] [Tbl]
/-! ## the store is written -/
section
variable {K : Frg} {H H' : Hp} {m m' : Mp} {st : Sto} {n n' : Nat}
theorem Kp.wr {i : Nat} {o o' : HO} (hi : i < n) (h : H (m.ix i) = some o) (ho : (∃ xs, o = .lst xs) ∨ (∃ kvs, o = .dK kvs) ∨ ∃ kvs, o = .dT kvs) : Kp K H (Off m n) (upd H (m.ix i) o') (Off m n) := by
  refine ⟨fun a xs e => ?_, fun a q u e => ?_, fun a q _ e z => ⟨?_, z⟩⟩
  · rw [upd_ne]; exact e
    intro q; rw [q, h] at e
    rcases ho with ⟨_, rfl⟩ | ⟨_, rfl⟩ | ⟨_, rfl⟩ <;> cases e
  · rw [upd_ne]; exact e
    intro q; rw [q, h] at e
    rcases ho with ⟨_, rfl⟩ | ⟨_, rfl⟩ | ⟨_, rfl⟩ <;> cases e
  · rw [upd_ne]; exact e
    exact fun q => z.1 i hi q.symm
theorem Fol.wr {i : Nat} {o o' : HO} (hi : i < n) (h : H (m.ix i) = some o) (ho : (∃ xs, o = .lst xs) ∨ (∃ kvs, o = .dK kvs) ∨ ∃ kvs, o = .dT kvs) (nt : NT o' := by exact fun _ z => nomatch z) : Fol m n H m n (upd H (m.ix i) o') := by
  have kp := Kp.wr (K := ([] : Frg)) (o' := o') hi h ho
  refine ⟨kp.tup, kp.frz, fun a u _ e z => ?_, fun _ _ => rfl, fun i a b => absurd b (by omega), Nat.le_refl _, fun a e => ?_, fun _ _ => Iff.rfl⟩
  · rw [upd_ne]; exact e
    exact fun q => z i hi q.symm
  · by_cases q : a = m.ix i
    · rw [q]; exact ⟨_, upd_same, nt⟩
    · obtain ⟨u, e1, e2⟩ := e
      exact ⟨u, by rw [upd_ne q]; exact e1, e2⟩
theorem Sim.wr {i : Nat} {o o' : HO} {ob : Ob} (S : Sim K H m st) (hi : i < st.length) (h : H (m.ix i) = some o) (ho : (∃ xs, o = .lst xs) ∨ (∃ kvs, o = .dK kvs) ∨ ∃ kvs, o = .dT kvs) (hob : ObAt K (upd H (m.ix i) o') m st.length (m.ix i) ob) (nt : NT o' := by exact fun _ z => nomatch z) : Sim K (upd H (m.ix i) o') m (st.set i ob) := by
  have kp := Kp.wr (K := K) (o' := o') hi h ho
  have f := Fol.wr (o' := o') hi h ho nt
  have hl : (st.set i ob).length = st.length := List.length_set
  refine ⟨fun j u e => ?_, fun a b ha hb => S.inj a b (hl ▸ ha) (hl ▸ hb), fun a z => f.dom a (S.ff a z), fun j hj => S.fi j (hl ▸ hj), S.tb.wr h ho⟩
  rw [hl]
  by_cases q : i = j
  · subst q
    rw [List.getElem?_set_self hi] at e
    cases e
    exact hob
  · rw [List.getElem?_set_ne q] at e
    have hj : j < st.length := (List.getElem?_eq_some_iff.mp e).1
    have ne : m.ix j ≠ m.ix i := fun z => q (S.inj j i hj hi z).symm
    have old := S.ob j u e
    cases u with
    | lst xs => obtain ⟨vs, h1, h2⟩ := old; exact ⟨vs, by rw [upd_ne ne]; exact h1, h2.mv kp⟩
    | dct kvs => obtain ⟨vs, h1, h2⟩ := old; exact ⟨vs, by rw [upd_ne ne]; exact h1, RpK.kp kp _ _ h2⟩
    | dtt kvs => obtain ⟨vs, h1, h2⟩ := old; exact ⟨vs, by rw [upd_ne ne]; exact h1, RpT.kp kp _ _ h2⟩
    | lkd es => exact Rp.mv old kp
    | lkl xs => exact FzL.mv old kp
end
/-- a method that writes a list of the store -/
def isLst (st : Sto) (w : Wv) : Bool := match w with
  | .r i => match st[i]? with
    | some (.lst _) => true
    | _ => false
  | _ => false
def eM (g : Wv → List Wv → Sto → Rs Wv) (co : En → Sto → Rs Wv) (cs : En → Sto → Rs (List Wv)) : En → Sto → Rs Wv := fun env st => (co env st).bind fun w st1 => if isLst st1 w = true then (cs env st1).bind fun ws st2 => g w ws st2 else .no
def appW (w : Wv) (ws : List Wv) (st : Sto) : Rs Wv := match w, ws with
  | .r i, [.d y] => match st[i]? with
    | some (.lst xs) => if xs.length < 1000000 then .ok (.d .none) (st.set i (.lst (xs ++ [y]))) else .no
    | _ => .no
  | _, _ => .no
section
variable {M : Md} {X : Cx} {B : Tb} {k : Nat} {pins : List (Addr × Obj)} {σ : L2.St} {H : Hp} {s : Shared} {m : Mp} {env : En} {st : Sto} {W : WX} {pos apos : Pos} {o e : Expr} {es : List Expr} {co ce : En → Sto → Rs Wv} {cs : En → Sto → Rs (List Wv)} {g : Wv → List Wv → Sto → Rs Wv}
theorem slot_at {v : V} {i : Nat} {xs : List PyData} (S : Sim X.K H m st) (r : RW X.K H m st.length v (.r i)) (e : st[i]? = some (.lst xs)) : ∃ us, v = .ref (m.ix i) ∧ H (m.ix i) = some (.lst us) ∧ RpA X.K H (Off m st.length) us xs := by
  obtain ⟨us, h1, h2⟩ := S.ob i _ e
  exact ⟨us, r.2, h1, h2⟩
theorem isLst_ty {v : V} {w : Wv} (S : Sim X.K H m st) (r : RW X.K H m st.length v w) (h : isLst st w = true) : tyV X.K "list" v H := by
  unfold isLst at h
  split at h
  · split at h
    · rename_i i _ xs e
      obtain ⟨us, rfl, h1, _⟩ := slot_at S r e
      exact .inl ⟨rfl, us, .inl (.inl h1)⟩
    · cases h
  · cases h
theorem te_mut {r : V → List V → Hp → VK → Prop} {Q : VK} (h : tE X W (eM g co cs) σ H Q)
    (q : ∀ (m : Mp) (st : Sto) (w : Wv) (ws : List Wv) (st2 : Sto) (v : V) (vs : List V) (H2 : Hp) (m2 : Mp), Fol m st.length H m2 st2.length H2 → Sim X.K H2 m2 st2 → RW X.K H2 m2 st2.length v w → RWs X.K H2 m2 st2.length vs ws → (g w ws st2).post (okE X m st.length H Q) (okX X W m st.length H σ) → r v vs H2 Q) :
    tBM X.K "list" r (tE X W co) (tA X W cs) σ H Q := by
  obtain ⟨m, env, st, S, R, hp⟩ := h
  unfold eM at hp
  rw [Rs.post_bind] at hp
  refine ⟨m, env, st, S, R, Rs.post_mono hp (fun w st1 q1 v H1 m1 f1 S1 r1 => ?_) fun _ _ q => q⟩
  split at q1
  · rename_i hw
    rw [Rs.post_bind] at q1
    exact ⟨isLst_ty S1 r1 hw, m1, env, st1, S1, R.mv f1, Rs.post_mono q1 (fun ws st2 q2 vs H2 m2 f2 S2 r2 => q m st w ws st2 v vs H2 m2 (f1.trans f2) S2 (r1.mv f2) r2 q2) fun _ _ z => okX.tr f1 z⟩
  · exact q1.elim
/-- the end of a write -/
theorem wr_end {H2 : Hp} {m2 : Mp} {st0 st2 : Sto} {i : Nat} {us vs : List V} {ds : List PyData} {x : PyData} {z : V} {Q : VK} {E : Xc → Sto → Prop} (f : Fol m st0.length H m2 st2.length H2) (S : Sim X.K H2 m2 st2) (hi : i < st2.length) (h : H2 (m2.ix i) = some (.lst us))
    (ra : RpA X.K H2 (Off m2 st2.length) vs ds) (rz : Rp X.K H2 (Off m2 st2.length) z x) (q : (Rs.ok (Wv.d x) (st2.set i (.lst ds))).post (okE X m st0.length H Q) E) : Q z (upd H2 (m2.ix i) (.lst vs)) := by
  have f2 : Fol m2 st2.length H2 m2 st2.length (upd H2 (m2.ix i) (.lst vs)) := .wr hi h (.inl ⟨_, rfl⟩)
  have hl : (st2.set i (Ob.lst ds)).length = st2.length := List.length_set
  refine q z _ m2 (by rw [hl]; exact f.trans f2) (S.wr hi h (.inl ⟨_, rfl⟩) ⟨vs, upd_same, ra.mv f2.kp⟩) ?_
  rw [hl]
  exact rz.mv f2.kp
theorem de_append (ho : DE X o co) (ha : DA X [e] cs) (hbase : attributeBase o "append" X.env (eval o X.env) = eval o X.env := by rfl)
    (hfew : ((backTo pos (starEach [e] X.env)).all (fun x => !x.1) && (backToKw pos (keywordEach [] X.env)).all (fun x => x.1.isSome)
      && decide ([e].length + ([] : List Keyword).length + (if ([] : List Keyword).isEmpty then 0 else 1) < 30)) = true := by rfl)
    (hline : (apos.endLine == pos.line) = true := by rfl) (hs : starEach [e] X.env = (false, eval e X.env) :: starEach [] X.env := by rfl) : DE X (.Call (.Attribute o "append" apos) [e] [] pos) (eM appW co cs) := by
  refine ⟨fun W tk => PE.imp (pe_bm PySem.F.plainAttrs_list PySem.F.slot_list_append PySem.F.type_list_append mt_append (ho.pe W tk) (ha.pa W tk) hbase hfew hline hs rfl) fun σ H Q h => te_mut h fun m st w ws st2 v vs H2 m2 f2 S2 r2 rs q => ?_⟩
  unfold appW at q
  split at q
  · split at q
    · rename_i i y _ xs ex
      split at q
      · rename_i hl
        obtain ⟨us, rfl, h1, h2⟩ := slot_at S2 r2 ex
        obtain ⟨u, rfl, ru⟩ := rws1 rs
        have hi : i < st2.length := (List.getElem?_eq_some_iff.mp ex).1
        refine ⟨_, us, u, rfl, rfl, h1, by rw [h2.len]; have := line_lim; omega, ?_⟩
        exact wr_end f2 S2 hi h1 (h2.app (.cons ru .nil)) .non q
      · exact q.elim
    · exact q.elim
  · exact q.elim
/-! ### x[i] = e -/
def dPut (es : List (PyData × PyData)) (k : Key) (c d : PyData) : List (PyData × PyData) := if hasKey es k = true then es.map (fun e => if keyD e.1 = some k then (e.1, d) else e) else es ++ [(c, d)]
theorem rpk_map {Z : Addr → Prop} {H : Hp} {v : V} {d : PyData} {q : Key} (r : Rp X.K H Z v d) : ∀ {ks : List (Key × V)} {es : List (PyData × PyData)}, RpK X.K H Z ks es →
    RpK X.K H Z (ks.map fun kv => if kv.1 = q then (kv.1, v) else kv) (es.map fun e => if keyD e.1 = some q then (e.1, d) else e)
  | [], _, h => by cases h; exact .nil
  | (k0, v0) :: ks, _, h => by
    cases h with
    | cons h0 h1 h2 =>
      simp only [List.map_cons]
      by_cases e : k0 = q
      · rw [if_pos e, if_pos (by rw [h0, e])]
        exact .cons h0 r (rpk_map r h2)
      · rw [if_neg e, if_neg (by rw [h0]; exact fun z => e (Option.some.inj z))]
        exact .cons h0 h1 (rpk_map r h2)
theorem rpk_app {Z : Addr → Prop} {H : Hp} {v : V} {c d : PyData} {q : Key} (e : keyD c = some q) (r : Rp X.K H Z v d) : ∀ {ks : List (Key × V)} {es : List (PyData × PyData)}, RpK X.K H Z ks es → RpK X.K H Z (ks ++ [(q, v)]) (es ++ [(c, d)])
  | [], _, h => by cases h; exact .cons e r .nil
  | (k0, v0) :: ks, _, h => by cases h with | cons h0 h1 h2 => exact .cons h0 h1 (rpk_app e r h2)
theorem rpk_put {Z : Addr → Prop} {H : Hp} {v : V} {c d : PyData} {q : Key} {ks : List (Key × V)} {es : List (PyData × PyData)} (e : keyD c = some q) (r : Rp X.K H Z v d) (h : RpK X.K H Z ks es) : RpK X.K H Z (L2.putK ks q v) (dPut es q c d) := by
  unfold L2.putK dPut
  rw [valV_any, valV_has q h]
  split
  · exact rpk_map r h
  · exact rpk_app e r h
theorem rt_key {Z : Addr → Prop} {H : Hp} {v : V} {c : PyData} {q : Key} (h : RT X.K H Z v c) (e : keyD c = some q) : v = kV q := by
  unfold keyD at e
  split at e
  · cases e; exact h.int
  · cases e; exact h.str
  · cases e
def dPutT (es : List (PyData × PyData)) (k : List Key) (c d : PyData) : List (PyData × PyData) := if (dLookT es k).isSome = true then es.map (fun e => if tkD e.1 = some k then (e.1, d) else e) else es ++ [(c, d)]
theorem rpt_map {Z : Addr → Prop} {H : Hp} {v : V} {d : PyData} {q : List Key} (r : Rp X.K H Z v d) : ∀ {ks : List (List Key × V)} {es : List (PyData × PyData)}, RpT X.K H Z ks es →
    RpT X.K H Z (ks.map fun kv => if kv.1 = q then (kv.1, v) else kv) (es.map fun e => if tkD e.1 = some q then (e.1, d) else e)
  | [], _, h => by cases h; exact .nil
  | (k0, v0) :: ks, _, h => by
    cases h with
    | cons h0 h1 h2 =>
      simp only [List.map_cons]
      by_cases e : k0 = q
      · rw [if_pos e, if_pos (by rw [h0, e])]
        exact .cons h0 r (rpt_map r h2)
      · rw [if_neg e, if_neg (by rw [h0]; exact fun z => e (Option.some.inj z))]
        exact .cons h0 h1 (rpt_map r h2)
theorem rpt_app {Z : Addr → Prop} {H : Hp} {v : V} {c d : PyData} {q : List Key} (e : tkD c = some q) (r : Rp X.K H Z v d) : ∀ {ks : List (List Key × V)} {es : List (PyData × PyData)}, RpT X.K H Z ks es → RpT X.K H Z (ks ++ [(q, v)]) (es ++ [(c, d)])
  | [], _, h => by cases h; exact .cons e r .nil
  | (k0, v0) :: ks, _, h => by cases h with | cons h0 h1 h2 => exact .cons h0 h1 (rpt_app e r h2)
theorem rpt_put {Z : Addr → Prop} {H : Hp} {v : V} {c d : PyData} {q : List Key} {ks : List (List Key × V)} {es : List (PyData × PyData)} (e : tkD c = some q) (r : Rp X.K H Z v d) (h : RpT X.K H Z ks es) : RpT X.K H Z (L2.putK ks q v) (dPutT es q c d) := by
  unfold L2.putK dPutT
  rw [valV_any, valV_hasT q h]
  split
  · exact rpt_map r h
  · exact rpt_app e r h
/-- a key's tuple that the top has not written -/
theorem rt_tkey {Z : Addr → Prop} {H : Hp} {v : V} {c : PyData} {q : List Key} (h : RT X.K H Z v c) (e : tkD c = some q) (hw : c ∉ Wtp.W) : ∃ b, v = .ref b ∧ H b = some (.tup (q.map kV)) := by
  cases c with
  | tuple ds =>
    obtain ⟨b, vs, rfl, h1, h2⟩ := h.tupT
    obtain ⟨b2, e2, h3⟩ := tkD_v h e
    cases e2
    rcases h1 with h1 | h1
    · refine ⟨b, rfl, ?_⟩
      have : ∀ {vs : List V} {ds : List PyData} {k : List Key}, RpA X.K H Z vs ds → keysD ds = some k → vs = k.map kV := by
        intro vs ds
        induction ds generalizing vs with
        | nil => intro k r e; cases e; cases r; rfl
        | cons d ds ih =>
          intro k r e
          unfold keysD at e
          split at e
          · rename_i k0 ks e1 e2
            cases e
            cases r with
            | cons r1 r2 => rw [List.map_cons, ih r2 e2, keyD_v (Z := Z) (.inl r1) e1]
          · cases e
      rw [this h2 (show keysD ds = some q from e)] at h1
      exact h1
    · exact absurd h1.2 hw
  | _ => cases e
open Classical in
noncomputable def setW (w j : Wv) (y : PyData) (st : Sto) : Option Sto := match w with
  | .r n => match st[n]?, look st j with
    | some (.lst xs), some (.int t) => (ixN xs.length t).map fun q => st.set n (.lst (xs.set q y))
    | some (.dct es), some c => match keyD c with
      | some q => if es.length < 1000000 then some (st.set n (.dct (dPut es q c y))) else none
      | none => none
    | some (.dtt es), some c => match tkD c with
      | some q => if es.length < 1000000 ∧ c ∉ Wtp.W then some (st.set n (.dtt (dPutT es q c y))) else none
      | none => none
    | _, _ => none
  | _ => none
noncomputable def sIx (co ci ce : En → Sto → Rs Wv) : En → Sto → SR := fun env st => (ce env st).sb fun x st1 => (co env st1).sb fun w st2 => (ci env st2).sb fun j st3 => match x with
  | .d y => match setW w j y st3 with
    | some st4 => .nx env st4
    | none => .no
  | _ => .no
def rSetB : TSet := fun o i v H Q => rSetL o i v H Q ∨ rSetD o i v H Q
theorem set_both (hu : X.A.units + 1 < cLine) : PSet X rSetB := by
  intro pins s σ H o i v ov iv u Q I ro ri rv h
  rcases h with h | h
  · exact set_list pins s σ H o i v ov iv u Q I ro ri rv h
  · exact set_dict hu pins s σ H o i v ov iv u Q I ro ri rv h
theorem setW_ok {D : Ends} {w j : Wv} {y : PyData} {st0 st4 : Sto} {ov iv v : V} {R : Hp → Prop} (S : Sim X.K H m st) (rw' : RW X.K H m st.length ov w) (rj : RW X.K H m st.length iv j) (ry : Rp X.K H (Off m st.length) v y) (e : setW w j y st = some st4)
    (q : ∀ H', Fol m st.length H m st4.length H' → Sim X.K H' m st4 → R H') : rSetB ov iv v H R := by
  unfold setW at e
  split at e
  · rename_i n
    split at e
    · rename_i xs t e1 e2
      have hi : n < st.length := (List.getElem?_eq_some_iff.mp e1).1
      obtain ⟨us, h1, h2⟩ := S.ob n _ e1
      cases e3 : ixN xs.length t with
      | none => rw [e3] at e; cases e
      | some z =>
        rw [e3] at e
        cases e
        have f2 : Fol m st.length H m st.length (upd H (m.ix n) (.lst (us.set z v))) := .wr hi h1 (.inl ⟨_, rfl⟩)
        have hl : (st.set n (Ob.lst (xs.set z y))).length = st.length := List.length_set
        refine .inl ⟨m.ix n, us, t, z, rw'.2, (look_rt S rj e2).int, h1, by rw [h2.len]; exact e3, ?_⟩
        exact q _ (by rw [hl]; exact f2) (S.wr hi h1 (.inl ⟨_, rfl⟩) ⟨_, upd_same, (RpA.set ry z h2).mv f2.kp⟩)
    · rename_i es c e1 e2
      have hi : n < st.length := (List.getElem?_eq_some_iff.mp e1).1
      obtain ⟨ks, h1, h2⟩ := S.ob n _ e1
      split at e
      · rename_i z ez
        split at e
        · rename_i hlt
          cases e
          have f2 : Fol m st.length H m st.length (upd H (m.ix n) (.dK (L2.putK ks z v))) := .wr hi h1 (.inr (.inl ⟨_, rfl⟩))
          have hl : (st.set n (Ob.dct (dPut es z c y))).length = st.length := List.length_set
          refine .inr ⟨m.ix n, _, rw'.2, by rw [rt_key (look_rt S rj e2) ez]; exact .k h1 (by rw [h2.len]; have := line_lim; omega), ?_⟩
          exact q _ (by rw [hl]; exact f2) (S.wr hi h1 (.inr (.inl ⟨_, rfl⟩)) ⟨_, upd_same, RpK.kp f2.kp _ _ (rpk_put ez ry h2)⟩)
        · cases e
      · cases e
    · rename_i es c e1 e2
      have hi : n < st.length := (List.getElem?_eq_some_iff.mp e1).1
      obtain ⟨ks, h1, h2⟩ := S.ob n _ e1
      split at e
      · rename_i z ez
        split at e
        · rename_i hlt
          cases e
          have f2 : Fol m st.length H m st.length (upd H (m.ix n) (.dT (L2.putK ks z v))) := .wr hi h1 (.inr (.inr ⟨_, rfl⟩))
          have hl : (st.set n (Ob.dtt (dPutT es z c y))).length = st.length := List.length_set
          obtain ⟨b, rfl, hb⟩ := rt_tkey (look_rt S rj e2) ez hlt.2
          refine .inr ⟨m.ix n, _, rw'.2, .t h1 hb (by rw [h2.len]; have := line_lim; omega), ?_⟩
          exact q _ (by rw [hl]; exact f2) (S.wr hi h1 (.inr (.inr ⟨_, rfl⟩)) ⟨_, upd_same, RpT.kp f2.kp _ _ (rpt_put ez ry h2)⟩)
        · cases e
      · cases e
    · cases e
  · cases e
theorem ds_setix (c : Cxt M X B k) {oe ie : Expr} {ci : En → Sto → Rs Wv} {p2 : Pos} (ho : DE X oe co) (hi : DE X ie ci) (he : DE X e ce) (hs : swapsWithSole [.Subscript oe ie p2] e pos.line X.env = pure false := by rfl) (hw : swappedStores [.Subscript oe ie p2] e X.env = pure none := by rfl)
    (h1 : (assignEach [.Subscript oe ie p2] X.env).map (·.2) = [assign (.Subscript oe ie p2) X.env] := by rfl)
    (ha : ∀ v, assign (.Subscript oe ie p2) X.env v = (do
      let ov ← holding [v] (eval oe X.env)
      let iv ← holding [v, ov] (eval ie X.env)
      standAt p2
      holding [v, ov, iv] (setItem ov iv v)
      release [v, ov, iv] []) := by intro _; rfl) : DS X (.Assign [.Subscript oe ie p2] e pos) (sIx co ci ce) := by
  refine ⟨fun W tk => PS.imp (ps_asg (he.pe W tk) (pg_sub (ho.pe W tk) (hi.pe W tk) (set_both (room_eq c.roomH (show 1 ≤ 60 by decide))) ha) hs hw h1) fun D σ H ⟨m, env, st, S, R, hp⟩ => ?_⟩
  unfold sIx at hp
  rw [Rs.post_sb] at hp
  refine ⟨m, env, st, S, R, Rs.post_mono hp (fun x st1 q v H1 m1 f1 S1 r1 => ?_) fun _ _ h => h.x⟩
  rw [Rs.post_sb] at q
  refine ⟨m1, env, st1, S1, R.mv f1, Rs.post_mono q (fun w st2 q ov H2 m2 f2 S2 r2 => ?_) fun _ _ h => (okXs.tr f1 h).x⟩
  rw [Rs.post_sb] at q
  refine ⟨m2, env, st2, S2, (R.mv f1).mv f2, Rs.post_mono q (fun j st3 q iv H3 m3 f3 S3 r3 => ?_) fun _ _ h => (okXs.tr (f1.trans f2) h).x⟩
  split at q
  · split at q
    · rename_i y st4 e4
      exact setW_ok (D := D) (st0 := st) S3 (r2.mv f3) r3 ((r1.mv f2).mv f3) e4 fun H' f4 S4 => q σ H' m3 (((f1.trans f2).trans f3).trans f4) S4 ((((R.mv f1).mv f2).mv f3).mv f4)
    · exact q.elim
  · exact q.elim
/-- x[a, b] = e: the key is a new tuple -/
def setWT (w : Wv) (c y : PyData) (st : Sto) : Option Sto := match w with
  | .r n => match st[n]? with
    | some (.dtt es) => match tkD c with
      | some q => if es.length < 1000000 then some (st.set n (.dtt (dPutT es q c y))) else none
      | none => none
    | _ => none
  | _ => none
def sIxT (co : En → Sto → Rs Wv) (cs : En → Sto → Rs (List Wv)) (ce : En → Sto → Rs Wv) : En → Sto → SR := fun env st => (ce env st).sb fun x st1 => (co env st1).sb fun w st2 => (cs env st2).sb fun js st3 => match x with
  | .d y => match allD js with
    | some ds => if ds.length ≤ 1000000 then (match setWT w (.tuple ds) y st3 with
      | some st4 => .nx env st4
      | none => .no) else .no
    | none => .no
  | _ => .no
end
end
section
variable [Wtp] [Tbl]
/-! ## max, min of two ints; t[::-1]; index in a written tuple -/
def max2F : List PyData → Option PyData
  | [.int i, .int j] => some (.int (if j > i then j else i))
  | _ => none
def min2F : List PyData → Option PyData
  | [.int i, .int j] => some (.int (if j < i then j else i))
  | _ => none
section
variable {X : Cx}
theorem c_max2 (hc : X.calm = true) : CallR X (.builtin "max") (rN X.K max2F) := by
  intro pins s σ H xs us Q I r ⟨Z, ds, e, hz, hd, hf, ho⟩
  unfold max2F at hf
  split at hf
  · cases hf
    obtain ⟨v, w, rfl, h1, h2⟩ := rts2 hd
    cases h1.int
    cases h2.int
    exact call_max2 hc pins s σ H _ us Q I r ⟨_, _, rfl, rout_here ho (.int _)⟩
  · cases hf
theorem c_min2 (hc : X.calm = true) : CallR X (.builtin "min") (rN X.K min2F) := by
  intro pins s σ H xs us Q I r ⟨Z, ds, e, hz, hd, hf, ho⟩
  unfold min2F at hf
  split at hf
  · cases hf
    obtain ⟨v, w, rfl, h1, h2⟩ := rts2 hd
    cases h1.int
    cases h2.int
    exact call_min2 hc pins s σ H _ us Q I r ⟨_, _, rfl, rout_here ho (.int _)⟩
  · cases hf
end
section
variable {M : Md} {X : Cx} {B : Tb} {k : Nat} {σ : L2.St} {H : Hp} {W : WX} {c : En → Sto → Rs Wv}
/-! ### x.index(e), x a written tuple of texts -/
def idxS (ys : List Str) (z : Str) : Option Nat := ys.findIdx? fun y => decide (y = z)
def eGix (ys : List Str) (cs : En → Sto → Rs (List Wv)) : En → Sto → Rs Wv := fun env st => (cs env st).bind fun ws st1 => match ws with
  | [.d (.str z)] => match idxS ys z with
    | some i => .ok (.d (.int (i : Nat))) st1
    | none => .no
  | _ => .no
end
end
section
variable [Wtp] [Tbl]
/-! ## the law's own call -/
theorem sysM_of {h : Heap} (x : h.NoSeer) : SysM h := by
  obtain ⟨mm, ⟨o, es, ep, e, d, _⟩, _⟩ := x.mods
  exact ⟨o, es, ep, e, d⟩
end
section
variable [Wtp] [Tbl]
/-! ## a, b = x, y: which stores -/
section
variable {M : Md} {X : Cx} {B : Tb} {k : Nat} {x y z : Str} {px py pz pt pt2 : Pos} {kt k2 : Nat} {a b e : Expr}
theorem isLoc (c : Cxt M X B k) {i : Nat} (h : i ∈ B.ps) (hx : B.N[i]? = some x) : X.env.kindOf x = some .local := c.pl i h x hx
theorem blkFn (c : Cxt M X B k) (hf : B.fn = true) : X.env.blockKind = .function := by unfold Env.blockKind; rw [c.kind hf]; rfl
def NoStar (e : Expr) : Prop := ∀ u p, e ≠ .Starred u p
theorem sw2 (c : Cxt M X B k) {i j : Nat} (hi : B.N[i]? = some x) (hj : B.N[j]? = some y) (pi : i ∈ B.ps) (pj : j ∈ B.ps) (hxy : [x, y].eraseDups.length = 2) (hf : B.fn = true) (hln : (py.line == px.line) = true)
    (ha : NoStar a) (hb : NoStar b) (hff : [a, b].all (foldedForSure 8) = false) (hca : [a, b].all (constantsAlone 8) = false) :
    swappedStores [.Tuple [.Name x px, .Name y py] kt pt] (.Tuple [a, b] k2 pt2) X.env = pure (some [x, y]) := by
  have h1 := isLoc c pi hi
  have h2 := isLoc c pj hj
  have h3 := blkFn c hf
  have hl : py.line = px.line := eq_of_beq hln
  unfold swappedStores
  simp [h1, h2, h3, hl, hff, hca, hxy, Expr.pos]
  rintro (h | h)
  · split at h
    · exact absurd rfl (ha _ _)
    · cases h
  · split at h
    · exact absurd rfl (hb _ _)
    · cases h
/-! ## the module's defs -/
def Has (M : Md) (g : Bool) (k : Nat) (x : Str) (ps : List Str) (mf : List Wv → Sto → Rs Wv) : Prop := ∃ f fd, M.mg x = some (.ref f) ∧ PySem.W.keepIn M.K (.ref f) = true ∧ Binds M.K fd ps [] ∧ Fnk M g k f fd ps mf
theorem Has.up {g : Bool} {ps : List Str} {mf : List Wv → Sto → Rs Wv} {j : Nat} (h : Has M g j x ps mf) (hj : j ≤ k) : Has M g k x ps mf := by
  obtain ⟨f, fd, h1, h2, h3, h4⟩ := h
  exact ⟨f, fd, h1, h2, h3, h4.mono hj⟩
theorem de_fn {g : Bool} {ps : List Str} {mf : List Wv → Sto → Rs Wv} {cs : En → Sto → Rs (List Wv)} {p pos : Pos} {es : List Expr} (c : Cxt M X B k) (F : Has M g k x ps mf) (j : Nat) (hg : B.gs[j]? = some x) (ha : DA X (e :: es) cs) (hgd : g = true → B.gd = true := by first | exact fun _ => rfl | exact fun z => Bool.noConfusion z) (hdb : (x == ("__debug__" : Str)) = false := by decide)
    (he : starEach (e :: es) X.env = (false, eval e X.env) :: starEach es X.env := by rfl) (hpl : (backTo pos (starEach es X.env)).any (·.1) = false := by rfl) : DE X (.Call (.Name x p) (e :: es) [] pos) (eCall mf cs) := by
  obtain ⟨f, fd, h1, h2, h3, h4⟩ := F
  exact de_call c h4 j hg h1 h2 h3 ha hgd hdb he hpl
/-- a def as the top has written it -/
structure TopFn (M : Md) (x : Str) (sf : Stmt) (ps : List Str) : Prop where
  at' : ∃ (f : Addr) (od an : Option Addr) (sl : Array (Option Value)) (oc kV dc pm cd ct : Value), M.mg x = some (.ref f) ∧ M.K.lookup f = some ⟨oc, od, .func (PySem.W.fnOf x x (defArgs sf) (defBody sf) (defScope sf) .none kV dc pm an cd ct), sl⟩ ∧
    PySem.W.codeIn M.K cd x = true ∧ PySem.W.keepIn M.K (.ref f) = true ∧ Binds M.K (PySem.W.fnOf x x (defArgs sf) (defBody sf) (defScope sf) .none kV dc pm an cd ct) ps []
/-- a def of the module that makes lambdas -/
structure LamT (M : Md) (x q : Str) : Prop where
  nm : (x ++ ".<locals>.") ++ "<lambda>" = q
  at' : ∃ c P : Addr, (∀ (f : Addr) (oc : Value) (od : Option Addr) (fd : FuncData) (sl : Array (Option Value)), M.mg x = some (.ref f) → M.K.lookup f = some ⟨oc, od, .func fd, sl⟩ → fd.code = .ref c) ∧ (P, q) ∈ Tbl.T ∧ (∀ p ∈ Tbl.T, p.1 = P → p.2 = q) ∧ LamX.TabB M.base M.mg c P
theorem LamT.to {q : Str} {f : Addr} {oc : Value} {od : Option Addr} {fd : FuncData} {sl : Array (Option Value)} (T : LamT M x q) (h1 : M.mg x = some (.ref f)) (h2 : M.K.lookup f = some ⟨oc, od, .func fd, sl⟩) : (x ++ ".<locals>.") ++ "<lambda>" = q ∧ LamC M.mg M.base q fd.code := by
  obtain ⟨c, P, e1, e2, e3, e4⟩ := T.at'
  exact ⟨T.nm, ⟨c, P, e1 f oc od fd sl h1 h2, e2, e3, e4⟩⟩
theorem has_of {sf : Stmt} {ps : List Str} {cb : En → Sto → SR} {np nN : Nat} (T : TopFn M x sf ps) (SC : FnScope B.N ps (defScope sf)) (hT : fnT B (defScope sf) = true) (hnp : ps.length = np) (hnN : B.N.length = nN)
    (hb : ∀ X : Cx, Cxt M X B k → DB X (defBody sf) cb) (hlam : ∀ q, B.lq = some q → LamT M x q := by intro _ h; exact nomatch (show (none : Option Str) = some _ from h)) : Has M B.gd (k + 1) x ps (mkF np nN cb) := by
  obtain ⟨f, od, an, sl, oc, kV, dc, pm, cd, ct, h1, h2, h3, h4, h5⟩ := T.at'
  exact ⟨f, _, h1, h4, h5, fnk_of h2 h3 SC hT hnp hnN hb (fun q hq => (hlam q hq).to h1 h2)⟩
/-! ## the module's constants -/
def Gw (M : Md) (x : Str) (y : PyData) : Prop := ∃ u v, M.mg x = some u ∧ RelV v u ∧ ∀ H Z, Rp M.K H Z v y
theorem de_gw {y : PyData} {p : Pos} (c : Cxt M X B k) (j : Nat) (h : B.gs[j]? = some x) (g : Gw M x y) (hd : (x == ("__debug__" : Str)) = false := by decide) : DE X (.Name x p) (eK y) := by
  obtain ⟨u, v, h1, h2, h3⟩ := g
  exact de_glob c j h h1 h2 h3 hd
theorem top_mk {h : Heap} {sf : Stmt} {ps : List Str} {f : Addr} {od an : Option Addr} {sl : Array (Option Value)} {oc kV dc pm cd ct : Value} (inK : M.K.In h) (G : h.Ns mainGlobals M.mg) (a : PySem.W.nsIn M.K mainGlobals x = some (some (.ref f)))
    (l : M.K.lookup f = some ⟨oc, od, .func (PySem.W.fnOf x x (defArgs sf) (defBody sf) (defScope sf) .none kV dc pm an cd ct), sl⟩) (cc : PySem.W.codeIn M.K cd x = true) (kk : PySem.W.keepIn M.K (.ref f) = true)
    (hb : ∀ us : List Value, us.length = ps.length → bindArgs (PySem.W.fnOf x x (defArgs sf) (defBody sf) (defScope sf) .none kV dc pm an cd ct) ⟨us, []⟩ = pure (ps.zip us)) : TopFn M x sf ps :=
  ⟨f, od, an, sl, oc, kV, dc, pm, cd, ct, PySem.W.mg_of inK G a, l, cc, kk, .all hb⟩
/-- a value that the top has written -/
def Wr (K : Frg) (u : Value) (d : PyData) : Prop := ∃ v, RelV v u ∧ ∀ H Z, Rp K H Z v d
section
variable {K : Frg}
theorem wr_int {i : Int} {t : Tok} : Wr K (.int i t) (.int i) := ⟨.int i, ⟨t, rfl⟩, fun _ _ => .int i⟩
end
theorem gw_of {h : Heap} {u : Value} {y : PyData} (inK : M.K.In h) (G : h.Ns mainGlobals M.mg) (a : PySem.W.nsIn M.K mainGlobals x = some (some u)) (w : Wr M.K u y) : Gw M x y := by
  obtain ⟨v, h1, h2⟩ := w
  exact ⟨u, v, PySem.W.mg_of inK G a, h1, h2⟩
end
end
section
variable [Wtp] [Tbl]
/-! ## reading a def on data -/
section
variable {α β : Type} (env : En) (st : Sto)
@[simp] theorem x_var (i : Nat) : eVar i env st = match env[i]? with
  | some (some w) => .ok w st
  | _ => .no := rfl
@[simp] theorem x_k (x : PyData) : eK x env st = .ok (.d x) st := rfl
@[simp] theorem x_op2 (f : PyData → PyData → Option PyData) (a b : En → Sto → Rs Wv) : eOp2 f a b env st = (a env st).bind fun v st1 => (b env st1).bind fun w st2 => look1 v st2 fun d => look1 w st2 fun e => ret1 (f d e) st2 := rfl
@[simp] theorem x_op1 (f : PyData → Option PyData) (a : En → Sto → Rs Wv) : eOp1 f a env st = (a env st).bind fun v st1 => look1 v st1 fun d => ret1 (f d) st1 := rfl
@[simp] theorem x_nil : aNil env st = .ok [] st := rfl
@[simp] theorem x_cons (a : En → Sto → Rs Wv) (b : En → Sto → Rs (List Wv)) : aCons a b env st = (a env st).bind fun v st1 => (b env st1).bind fun r st2 => .ok (v :: r) st2 := rfl
end
def srcW (w : Wv) (st1 : Sto) : Rs Sc := match w with
  | .d (.str x) => .ok ⟨x.cps.toList.map sgnD, []⟩ st1
  | .d (.dict es) => .ok ⟨es.map (·.1), []⟩ st1
  | w => match seqW w st1 with
    | some sc => .ok sc st1
    | none => .no
def rg1W (ws : List Wv) (st1 : Sto) : Rs Sc := match ws with
  | [.d (.int j)] => if rgOk j then .ok ⟨rangeD 0 j.toNat, []⟩ st1 else .no
  | _ => .no
def rg2W (ws : List Wv) (st1 : Sto) : Rs Sc := match ws with
  | [.d (.int i), .d (.int j)] => if rgOk i && rgOk j then .ok ⟨rangeD i (j - i).toNat, []⟩ st1 else .no
  | _ => .no
def rgdW (ws : List Wv) (st1 : Sto) : Rs Sc := match ws with
  | [.d (.int i), .d (.int j), .d (.int (-1))] => if rgOk i && rgOk j then .ok ⟨downD i (i - j).toNat, []⟩ st1 else .no
  | _ => .no
def enumW (ws : List Wv) (st1 : Sto) : Rs Sc := match ws with
  | [u] => match seqW u st1 with
    | some a => .ok ⟨enumD a.xs, a.lv⟩ st1
    | _ => .no
  | _ => .no
def zip2W (ws : List Wv) (st1 : Sto) : Rs Sc := match ws with
  | [u, v] => match seqW u st1, seqW v st1 with
    | some a, some b => .ok ⟨List.zipWith pairD a.xs b.xs, a.lv ++ b.lv⟩ st1
    | _, _ => .no
  | _ => .no
def zip3W (ws : List Wv) (st1 : Sto) : Rs Sc := match ws with
  | [u, v, w] => match seqW u st1, seqW v st1, seqW w st1 with
    | some a, some b, some c => .ok ⟨zip3 a.xs b.xs c.xs, (a.lv ++ b.lv) ++ c.lv⟩ st1
    | _, _, _ => .no
  | _ => .no
def tupW (ws : List Wv) (st1 : Sto) : Rs Wv := match allD ws with
  | some ds => if ds.length ≤ 1000000 then .ok (.d (.tuple ds)) st1 else .no
  | none => .no
def lstW (ws : List Wv) (st1 : Sto) : Rs Wv := match allD ws with
  | some ds => if ds.length ≤ 1000000 then .ok (.d (.list ds)) st1 else .no
  | none => .no
def newW (ws : List Wv) (st1 : Sto) : Rs Wv := match allD ws with
  | some ds => if ds.length ≤ 1000000 then .ok (.r st1.length) (st1 ++ [.lst ds]) else .no
  | none => .no
def gixW (ys : List Str) (ws : List Wv) (st1 : Sto) : Rs Wv := match ws with
  | [.d (.str z)] => match idxS ys z with
    | some i => .ok (.d (.int (i : Nat))) st1
    | none => .no
  | _ => .no
@[simp] theorem x_opN (env : En) (st : Sto) (f : List PyData → Option PyData) (c : En → Sto → Rs (List Wv)) : eOpN f c env st = ((c env st).bind fun ws st1 => match looks ws st1 with | some ds => ret1 (f ds) st1 | none => .no) := rfl
@[simp] theorem x_tru (env : En) (st : Sto) (c : En → Sto → Rs Wv) : tTru c env st = ((c env st).bind tru) := rfl
@[simp] theorem x_and (env : En) (st : Sto) (a b : En → Sto → Rs Bool) : tAnd2 a b env st = ((a env st).bind fun x st1 => if x = true then b env st1 else .ok false st1) := rfl
@[simp] theorem x_or (env : En) (st : Sto) (a b : En → Sto → Rs Bool) : tOr2 a b env st = ((a env st).bind fun x st1 => if x = true then .ok true st1 else b env st1) := rfl
@[simp] theorem x_not (env : En) (st : Sto) (a : En → Sto → Rs Bool) : tNot1 a env st = ((a env st).bind fun x st1 => .ok (!x) st1) := rfl
@[simp] theorem x_eand (env : En) (st : Sto) (a b : En → Sto → Rs Wv) : eAnd2 a b env st = ((a env st).bind fun w st1 => (tru w st1).bind fun x st2 => if x = true then b env st2 else .ok w st2) := rfl
@[simp] theorem x_eor (env : En) (st : Sto) (a b : En → Sto → Rs Wv) : eOr2 a b env st = ((a env st).bind fun w st1 => (tru w st1).bind fun x st2 => if x = true then .ok w st2 else b env st2) := rfl
@[simp] theorem x_enot (env : En) (st : Sto) (a : En → Sto → Rs Wv) : eNot1 a env st = ((a env st).bind fun w st1 => (tru w st1).bind fun x st2 => .ok (.d (.bool (!x))) st2) := rfl
@[simp] theorem x_eif (env : En) (st : Sto) (t : En → Sto → Rs Bool) (a b : En → Sto → Rs Wv) : eIf t a b env st = ((t env st).bind fun x st1 => if x = true then a env st1 else b env st1) := rfl
@[simp] theorem x_bl (env : En) (st : Sto) (c : En → Sto → Rs Wv) : tBl c env st = ((c env st).bind fun w st1 => match w with | .d (.bool b) => .ok b st1 | _ => .no) := rfl
@[simp] theorem x_newd (env : En) (st : Sto)  : eNewD env st = (.ok (.r st.length) (st ++ [.dct []])) := rfl
def sixTW (env : En) (x w : Wv) (js : List Wv) (st3 : Sto) : SR := match x with
  | .d y => match allD js with
    | some ds => if ds.length ≤ 1000000 then (match setWT w (.tuple ds) y st3 with
      | some st4 => .nx env st4
      | none => .no) else .no
    | none => .no
  | _ => .no
@[simp] theorem x_sixt (env : En) (st : Sto) (co : En → Sto → Rs Wv) (cs : En → Sto → Rs (List Wv)) (ce : En → Sto → Rs Wv) : sIxT co cs ce env st = ((ce env st).sb fun x st1 => (co env st1).sb fun w st2 => (cs env st2).sb (sixTW env x w)) := rfl
@[simp] theorem x_newt (env : En) (st : Sto) : eNewT env st = (.ok (.r st.length) (st ++ [.dtt []])) := rfl
@[simp] theorem x_dic0 (env : En) (st : Sto)  : eDic0 env st = (.ok (.d (.dict [])) st) := rfl
@[simp] theorem x_slice (env : En) (st : Sto) (c : En → Sto → Rs Wv) (l h : En → Sto → Rs (Option Int)) : eSlice c l h env st = ((c env st).bind fun w st1 => (l env st1).bind fun i st2 => (h env st2).bind fun j st3 => look1 w st3 fun d => ret1 (slD i j d) st3) := rfl
@[simp] theorem x_pno (env : En) (st : Sto)  : pNo env st = (.ok none st) := rfl
@[simp] theorem x_psome (env : En) (st : Sto) (c : En → Sto → Rs Wv) : pSome c env st = ((c env st).bind fun w st1 => match w with | .d (.int i) => .ok (some i) st1 | _ => .no) := rfl
@[simp] theorem x_snil (env : En) (st : Sto)  : sNil env st = (.nx env st) := rfl
@[simp] theorem x_seq (env : En) (st : Sto) (a b : En → Sto → SR) : sSeq a b env st = ((a env st).seq b) := rfl
@[simp] theorem x_set (env : En) (st : Sto) (i : Nat) (c : En → Sto → Rs Wv) : sSet i c env st = ((c env st).sb fun w st1 => .nx (env.set i (some w)) st1) := rfl
@[simp] theorem x_ret (env : En) (st : Sto) (c : En → Sto → Rs Wv) : sRet c env st = ((c env st).sb fun w st1 => .rt (.w w) st1) := rfl
@[simp] theorem x_retf (env : En) (st : Sto) (c : En → Sto → Rs Wv) : sRetF c env st = ((c env st).sb fun w st1 => .rt (.f w) st1) := rfl
@[simp] theorem x_rett (env : En) (st : Sto) (c : En → Sto → Rs (List Wv)) : sRetT c env st = ((c env st).sb fun ws st1 => if ws.length ≤ 1000 then .rt (.ft ws) st1 else .no) := rfl
@[simp] theorem x_retn (env : En) (st : Sto)  : sRetN env st = (.rt (.w (.d .none)) st) := rfl
@[simp] theorem x_exp (env : En) (st : Sto) (c : En → Sto → Rs Wv) : sExp c env st = ((c env st).sb fun _ st1 => .nx env st1) := rfl
@[simp] theorem x_if (env : En) (st : Sto) (t : En → Sto → Rs Bool) (a b : En → Sto → SR) : sIf t a b env st = ((t env st).sb fun x st1 => if x = true then a env st1 else b env st1) := rfl
@[simp] theorem x_sno (env : En) (st : Sto)  : sNo env st = (.no) := rfl
@[simp] theorem x_asg (env : En) (st : Sto) (g : Wv → En → Option En) (c : En → Sto → Rs Wv) : sAsg g c env st = ((c env st).sb fun w st1 => match g w env with | some env' => .nx env' st1 | none => .no) := rfl
@[simp] theorem x_par2 (env : En) (st : Sto) (i j : Nat) (c : En → Sto → Rs (List Wv)) : sPar2 i j c env st = ((c env st).sb fun ws st1 => match ws with | [v, w] => .nx ((env.set i (some v)).set j (some w)) st1 | _ => .no) := rfl
@[simp] theorem x_par3 (env : En) (st : Sto) (i j l : Nat) (c : En → Sto → Rs (List Wv)) : sPar3 i j l c env st = ((c env st).sb fun ws st1 => match ws with | [u, v, w] => .nx (((env.set i (some u)).set j (some v)).set l (some w)) st1 | _ => .no) := rfl
@[simp] theorem x_for (env : En) (st : Sto) (ci : En → Sto → Rs Sc) (g : Wv → En → Option En) (b : En → Sto → SR) : sFor ci g b env st = ((ci env st).sb fun sc st1 => forL g b sc.lv sc.xs env st1) := rfl
@[simp] theorem x_clc (env : En) (st : Sto) (ci : En → Sto → Rs Sc) (g : Wv → En → Option En) (t : En → Sto → Rs Bool) (c : En → Sto → Rs Wv) (vs : List Nat) : cLc ci g t c vs env st = ((ci env st).bind fun sc st1 => if sc.xs.length ≤ 1000000 then lcL g t c sc.lv (wipeE env vs) sc.xs [] st1 else .no) := rfl
@[simp] theorem x_lc (env : En) (st : Sto) (ci : En → Sto → Rs Sc) (g : Wv → En → Option En) (t : En → Sto → Rs Bool) (c : En → Sto → Rs Wv) (vs : List Nat) : eLc ci g t c vs env st = ((cLc ci g t c vs env st).bind fun ys st2 => .ok (.d (.list ys)) st2) := rfl
@[simp] theorem x_lcn (env : En) (st : Sto) (ci : En → Sto → Rs Sc) (g : Wv → En → Option En) (t : En → Sto → Rs Bool) (c : En → Sto → Rs Wv) (vs : List Nat) : eLcN ci g t c vs env st = ((cLc ci g t c vs env st).bind fun ys st2 => .ok (.r st2.length) (st2 ++ [.lst ys])) := rfl
@[simp] theorem x_yes (env : En) (st : Sto)  : tYs env st = (.ok true st) := rfl
@[simp] theorem x_meth (env : En) (st : Sto) (g : Wv → List Wv → Sto → Rs Wv) (co : En → Sto → Rs Wv) (cs : En → Sto → Rs (List Wv)) : eM g co cs env st = ((co env st).bind fun w st1 => if isLst st1 w = true then (cs env st1).bind fun ws st2 => g w ws st2 else .no) := rfl
@[simp] theorem x_call (env : En) (st : Sto) (mf : List Wv → Sto → Rs Wv) (cs : En → Sto → Rs (List Wv)) : eCall mf cs env st = ((cs env st).bind mf) := rfl
@[simp] theorem x_seqs (env : En) (st : Sto) (c : En → Sto → Rs Wv) : cSeq c env st = ((c env st).bind srcW) := rfl
@[simp] theorem x_rg1 (env : En) (st : Sto) (c : En → Sto → Rs (List Wv)) : cRg1 c env st = ((c env st).bind rg1W) := rfl
@[simp] theorem x_rg2 (env : En) (st : Sto) (c : En → Sto → Rs (List Wv)) : cRg2 c env st = ((c env st).bind rg2W) := rfl
@[simp] theorem x_rgd (env : En) (st : Sto) (c : En → Sto → Rs (List Wv)) : cRgD c env st = ((c env st).bind rgdW) := rfl
@[simp] theorem x_enum (env : En) (st : Sto) (c : En → Sto → Rs (List Wv)) : cEnum c env st = ((c env st).bind enumW) := rfl
@[simp] theorem x_zip2 (env : En) (st : Sto) (c : En → Sto → Rs (List Wv)) : cZip2 c env st = ((c env st).bind zip2W) := rfl
@[simp] theorem x_zip3 (env : En) (st : Sto) (c : En → Sto → Rs (List Wv)) : cZip3 c env st = ((c env st).bind zip3W) := rfl
@[simp] theorem x_tup (env : En) (st : Sto) (c : En → Sto → Rs (List Wv)) : eTup c env st = ((c env st).bind tupW) := rfl
@[simp] theorem x_lst (env : En) (st : Sto) (c : En → Sto → Rs (List Wv)) : eLst c env st = ((c env st).bind lstW) := rfl
@[simp] theorem x_newl (env : En) (st : Sto) (c : En → Sto → Rs (List Wv)) : eNewL c env st = ((c env st).bind newW) := rfl
@[simp] theorem x_gix (env : En) (st : Sto) (ys : List Str) (c : En → Sto → Rs (List Wv)) : eGix ys c env st = ((c env st).bind (gixW ys)) := rfl
def chW (o : Option PyData) (k : Rs Wv) (st : Sto) : Rs Wv := match o with
  | some (.bool true) => k
  | some (.bool false) => .ok (.d (.bool false)) st
  | _ => .no
@[simp] theorem chW_b (b : Bool) (k : Rs Wv) (st : Sto) : chW (some (.bool b)) k st = if b = true then k else .ok (.d (.bool false)) st := by cases b <;> rfl
@[simp] theorem x_chain (env : En) (st : Sto) (f g : PyData → PyData → Option PyData) (a b c : En → Sto → Rs Wv) : eChain f g a b c env st = ((a env st).bind fun v st1 => (b env st1).bind fun w st2 => look1 v st2 fun d => look1 w st2 fun e => chW (f d e) ((c env st2).bind fun z st3 => look1 w st3 fun e' => look1 z st3 fun y => ret1 (g e' y) st3) st2) := rfl
@[simp] theorem if_a (p : Prop) [Decidable p] (x : Bool) (st : Sto) : (if p then Rs.ok (Wv.d (.bool x)) st else Rs.ok (Wv.d (.bool false)) st) = Rs.ok (Wv.d (.bool (decide p && x))) st := by by_cases h : p <;> simp [h]
@[simp] theorem if_o (p : Prop) [Decidable p] (x : Bool) (st : Sto) : (if p then Rs.ok (Wv.d (.bool true)) st else Rs.ok (Wv.d (.bool x)) st) = Rs.ok (Wv.d (.bool (decide p || x))) st := by by_cases h : p <;> simp [h]
@[simp] theorem if_c (p : Prop) [Decidable p] (x : Bool) (st : Sto) : (if p then Rs.ok (Wv.d (.bool false)) st else Rs.ok (Wv.d (.bool x)) st) = Rs.ok (Wv.d (.bool (!decide p && x))) st := by by_cases h : p <;> simp [h]
@[simp] theorem if_d (p : Prop) [Decidable p] (x : Bool) (st : Sto) : (if p then Rs.ok (Wv.d (.bool x)) st else Rs.ok (Wv.d (.bool true)) st) = Rs.ok (Wv.d (.bool (!decide p || x))) st := by by_cases h : p <;> simp [h]
@[simp] theorem if_ta (p : Prop) [Decidable p] (x : Bool) (st : Sto) : (if p then Rs.ok x st else Rs.ok false st) = Rs.ok (decide p && x) st := by by_cases h : p <;> simp [h]
@[simp] theorem if_to (p : Prop) [Decidable p] (x : Bool) (st : Sto) : (if p then Rs.ok true st else Rs.ok x st) = Rs.ok (decide p || x) st := by by_cases h : p <;> simp [h]
@[simp] theorem if_tc (p : Prop) [Decidable p] (x : Bool) (st : Sto) : (if p then Rs.ok false st else Rs.ok x st) = Rs.ok (!decide p && x) st := by by_cases h : p <;> simp [h]
@[simp] theorem if_td (p : Prop) [Decidable p] (x : Bool) (st : Sto) : (if p then Rs.ok x st else Rs.ok true st) = Rs.ok (!decide p || x) st := by by_cases h : p <;> simp [h]
@[simp] theorem if_a2 (b x : Bool) (st : Sto) : (if b = true then Rs.ok (Wv.d (.bool x)) st else Rs.ok (Wv.d (.bool b)) st) = Rs.ok (Wv.d (.bool (b && x))) st := by cases b <;> rfl
@[simp] theorem if_o2 (b x : Bool) (st : Sto) : (if b = true then Rs.ok (Wv.d (.bool b)) st else Rs.ok (Wv.d (.bool x)) st) = Rs.ok (Wv.d (.bool (b || x))) st := by cases b <;> rfl
noncomputable def sixW (env : En) (w j x : Wv) (st3 : Sto) : SR := match x with
  | .d y => match setW w j y st3 with
    | some st4 => .nx env st4
    | none => .no
  | _ => .no
@[simp] theorem x_six (env : En) (st : Sto) (co ci ce : En → Sto → Rs Wv) : sIx co ci ce env st = (ce env st).sb fun x st1 => (co env st1).sb fun w st2 => (ci env st2).sb fun j st3 => sixW env w j x st3 := rfl
@[simp] theorem x_gN (i : Nat) (w : Wv) (env : En) : gN i w env = some (env.set i (some w)) := rfl
@[simp] theorem x_gTp (g : List PyData → En → Option En) (xs : List PyData) (env : En) : gTp g (.d (.tuple xs)) env = g xs env := rfl
@[simp] theorem x_gNl (env : En) : gNl [] env = some env := rfl
@[simp] theorem x_gCn (g : Wv → En → Option En) (h : List PyData → En → Option En) (x : PyData) (r : List PyData) (env : En) : gCn g h (x :: r) env = (g (.d x) env).bind (h r) := rfl
@[simp] theorem x_mk (np N : Nat) (b : En → Sto → SR) (ws : List Wv) (st : Sto) : mkF np N b ws st = if ws.length = np then endS st.length (b (ws.map some ++ List.replicate (N - ws.length) none) st) else .no := rfl
@[simp] theorem x_end_nx (n : Nat) (env : En) (st : Sto) : endS n (.nx env st) = .ok (.d .none) (st.take n) := rfl
@[simp] theorem x_end_d (n : Nat) (x : PyData) (st : Sto) : endS n (.rt (.w (.d x)) st) = .ok (.d x) (st.take n) := rfl
@[simp] theorem x_end_fd (n : Nat) (x : PyData) (st : Sto) : endS n (.rt (.f (Wv.d x)) st) = .ok (.d x) (st.take n) := rfl
theorem x_end_r {n i : Nat} {st : Sto} {o : Ob} (hi : n ≤ i) (h : st[i]? = some o) : endS n (.rt (.w (.r i)) st) = .ok (.r n) (st.take n ++ [o]) := by
  show (if i < n then Rs.ok (Wv.r i) (st.take n) else match st[i]? with | some o => Rs.ok (Wv.r n) (st.take n ++ [o]) | none => .no) = _
  rw [if_neg (by omega), h]
/-! ## the operations on data -/
@[simp] theorem o_add_i (i j : Int) : addD (.int i) (.int j) = some (.int (i + j)) := rfl
@[simp] theorem o_add_t (xs ys : List PyData) : addD (.tuple xs) (.tuple ys) = if xs.length + ys.length ≤ 1000000 then some (.tuple (xs ++ ys)) else none := rfl
@[simp] theorem o_add_l (xs ys : List PyData) : addD (.list xs) (.list ys) = if xs.length + ys.length ≤ 1000000 then some (.list (xs ++ ys)) else none := rfl
@[simp] theorem o_sub_i (i j : Int) : subD (.int i) (.int j) = some (.int (i - j)) := rfl
@[simp] theorem o_mul_i (i j : Int) : mulD (.int i) (.int j) = if bigOk i j = true then some (.int (i * j)) else none := rfl
@[simp] theorem o_mul_t (xs : List PyData) (k : Int) : mulD (.tuple xs) (.int k) = if k = 1 then some (.tuple xs) else if 2 ≤ k ∧ k ≤ 1000 ∧ xs.length ≤ 1000 ∧ xs ≠ [] then some (.tuple (List.replicate k.toNat xs).flatten) else if xs = [] ∧ 0 ≤ k ∧ k ≤ 1000 then some (.tuple []) else none := rfl
@[simp] theorem o_mul_l (xs : List PyData) (k : Int) : mulD (.list xs) (.int k) = if 0 ≤ k ∧ k ≤ 1000 ∧ xs.length ≤ 1000 then some (.list (List.replicate k.toNat xs).flatten) else none := rfl
@[simp] theorem o_div_i (i j : Int) : divD (.int i) (.int j) = if 0 < j ∧ j < 1073741824 then some (.int (i / j)) else if 0 < j ∧ j < 1606938044258990275541962092341162602522202993782792835301376 then some (.int (i / j)) else none := rfl
@[simp] theorem o_mod_i (i j : Int) : modD (.int i) (.int j) = if 0 < j then some (.int (i % j)) else none := rfl
@[simp] theorem o_pow_i (i j : Int) : powD (.int i) (.int j) = if 0 ≤ j ∧ j ≤ 1000 ∧ i.natAbs < 18446744073709551616 then some (.int (i ^ j.toNat)) else none := rfl
@[simp] theorem o_neg_i (i : Int) : negD (.int i) = some (.int (-i)) := rfl
@[simp] theorem o_eq_i (i j : Int) : eqD (.int i) (.int j) = some (.bool (i == j)) := rfl
@[simp] theorem o_ne_i (i j : Int) : neD (.int i) (.int j) = some (.bool (!(i == j))) := rfl
@[simp] theorem o_eq_b (i j : Bool) : eqD (.bool i) (.bool j) = some (.bool (i == j)) := rfl
@[simp] theorem o_ne_b (i j : Bool) : neD (.bool i) (.bool j) = some (.bool (!(i == j))) := rfl
@[simp] theorem o_eq_s (i j : Str) : eqD (.str i) (.str j) = some (.bool (i == j)) := rfl
@[simp] theorem o_ne_s (i j : Str) : neD (.str i) (.str j) = some (.bool (!(i == j))) := rfl
@[simp] theorem o_lt_i (i j : Int) : ltD (.int i) (.int j) = some (.bool (decide (i < j))) := rfl
@[simp] theorem o_gt_i (i j : Int) : gtD (.int i) (.int j) = some (.bool (decide (j < i))) := rfl
@[simp] theorem o_le_i (i j : Int) : leD (.int i) (.int j) = some (.bool (decide (i ≤ j))) := rfl
@[simp] theorem o_ge_i (i j : Int) : geD (.int i) (.int j) = some (.bool (decide (j ≤ i))) := rfl
@[simp] theorem o_is_n (a : PyData) : isND a .none = some (.bool (isNone a)) := rfl
@[simp] theorem o_nt_n (a : PyData) : ntND a .none = some (.bool (!isNone a)) := rfl
@[simp] theorem o_ix_t (xs : List PyData) (i : Int) : ixD (.tuple xs) (.int i) = atD xs i := rfl
@[simp] theorem o_ix_l (xs : List PyData) (i : Int) : ixD (.list xs) (.int i) = atD xs i := rfl
@[simp] theorem o_sl_t (xs : List PyData) (i j : Option Int) : slD i j (.tuple xs) = some (.tuple (cutD xs i j)) := rfl
@[simp] theorem o_sl_l (xs : List PyData) (i j : Option Int) : slD i j (.list xs) = some (.list (cutD xs i j)) := rfl
@[simp] theorem o_len_t (xs : List PyData) : lenF [.tuple xs] = some (.int xs.length) := rfl
@[simp] theorem o_len_l (xs : List PyData) : lenF [.list xs] = some (.int xs.length) := rfl
@[simp] theorem o_tup_t (xs : List PyData) : tupF [.tuple xs] = some (.tuple xs) := rfl
@[simp] theorem o_tup_l (xs : List PyData) : tupF [.list xs] = some (.tuple xs) := rfl
@[simp] theorem o_lst_t (xs : List PyData) : lstF [.tuple xs] = some (.list xs) := rfl
@[simp] theorem o_lst_l (xs : List PyData) : lstF [.list xs] = some (.list xs) := rfl
@[simp] theorem o_int_i (i : Int) : intF [.int i] = some (.int i) := rfl
@[simp] theorem o_int_b (b : Bool) : intF [.bool b] = some (.int (if b then 1 else 0)) := rfl
@[simp] theorem o_max2 (i j : Int) : max2F [.int i, .int j] = some (.int (if j > i then j else i)) := rfl
@[simp] theorem o_min2 (i j : Int) : min2F [.int i, .int j] = some (.int (if j < i then j else i)) := rfl
@[simp] theorem o_all (bs : List Bool) : allF [.list (bs.map .bool)] = some (.bool (bs.all id)) := by show (boolsOf _).map _ = _; rw [boolsOf_map]; rfl
@[simp] theorem o_sum_l (ns : List Int) : sumF [.list (ns.map .int)] = some (.int ns.sum) := by show (intsOf _).map _ = _; rw [intsOf_map]; rfl
@[simp] theorem o_sum_t (ns : List Int) : sumF [.tuple (ns.map .int)] = some (.int ns.sum) := by show (intsOf _).map _ = _; rw [intsOf_map]; rfl
@[simp] theorem tru_i (i : Int) (st : Sto) : tru (.d (.int i)) st = .ok (!(i == 0)) st := rfl
theorem atD_nat {α : Type} {xs : List α} {i : Nat} : atD xs (i : Nat) = xs[i]? := by
  unfold atD
  unfold ixN
  rw [if_pos (by omega)]
  split
  · simp
  · simp; omega
@[simp] theorem atD_0 {α : Type} (x : α) (xs : List α) : atD (x :: xs) 0 = some x := atD_nat (i := 0)
@[simp] theorem atD_1 {α : Type} (x y : α) (xs : List α) : atD (x :: y :: xs) 1 = some y := atD_nat (i := 1)
@[simp] theorem atD_2 {α : Type} (x y z : α) (xs : List α) : atD (x :: y :: z :: xs) 2 = some z := atD_nat (i := 2)
@[simp] theorem atD_3 {α : Type} (x y z w : α) (xs : List α) : atD (x :: y :: z :: w :: xs) 3 = some w := atD_nat (i := 3)
@[simp] theorem isa_int_none  : isaD "int" .none = some (.bool false) := rfl
@[simp] theorem isa_int_bool (b : Bool) : isaD "int" (.bool b) = some (.bool true) := rfl
@[simp] theorem isa_int_int (i : Int) : isaD "int" (.int i) = some (.bool true) := rfl
@[simp] theorem isa_int_str (x : Str) : isaD "int" (.str x) = some (.bool false) := rfl
@[simp] theorem isa_int_list (xs : List PyData) : isaD "int" (.list xs) = some (.bool false) := rfl
@[simp] theorem isa_int_tuple (xs : List PyData) : isaD "int" (.tuple xs) = some (.bool false) := rfl
@[simp] theorem isa_int_dict (es : List (PyData × PyData)) : isaD "int" (.dict es) = some (.bool false) := rfl
@[simp] theorem isa_bool_none  : isaD "bool" .none = some (.bool false) := rfl
@[simp] theorem isa_bool_bool (b : Bool) : isaD "bool" (.bool b) = some (.bool true) := rfl
@[simp] theorem isa_bool_int (i : Int) : isaD "bool" (.int i) = some (.bool false) := rfl
@[simp] theorem isa_bool_str (x : Str) : isaD "bool" (.str x) = some (.bool false) := rfl
@[simp] theorem isa_bool_list (xs : List PyData) : isaD "bool" (.list xs) = some (.bool false) := rfl
@[simp] theorem isa_bool_tuple (xs : List PyData) : isaD "bool" (.tuple xs) = some (.bool false) := rfl
@[simp] theorem isa_bool_dict (es : List (PyData × PyData)) : isaD "bool" (.dict es) = some (.bool false) := rfl
@[simp] theorem isa_str_none  : isaD "str" .none = some (.bool false) := rfl
@[simp] theorem isa_str_bool (b : Bool) : isaD "str" (.bool b) = some (.bool false) := rfl
@[simp] theorem isa_str_int (i : Int) : isaD "str" (.int i) = some (.bool false) := rfl
@[simp] theorem isa_str_str (x : Str) : isaD "str" (.str x) = some (.bool true) := rfl
@[simp] theorem isa_str_list (xs : List PyData) : isaD "str" (.list xs) = some (.bool false) := rfl
@[simp] theorem isa_str_tuple (xs : List PyData) : isaD "str" (.tuple xs) = some (.bool false) := rfl
@[simp] theorem isa_str_dict (es : List (PyData × PyData)) : isaD "str" (.dict es) = some (.bool false) := rfl
@[simp] theorem isa_tuple_none  : isaD "tuple" .none = some (.bool false) := rfl
@[simp] theorem isa_tuple_bool (b : Bool) : isaD "tuple" (.bool b) = some (.bool false) := rfl
@[simp] theorem isa_tuple_int (i : Int) : isaD "tuple" (.int i) = some (.bool false) := rfl
@[simp] theorem isa_tuple_str (x : Str) : isaD "tuple" (.str x) = some (.bool false) := rfl
@[simp] theorem isa_tuple_list (xs : List PyData) : isaD "tuple" (.list xs) = some (.bool false) := rfl
@[simp] theorem isa_tuple_tuple (xs : List PyData) : isaD "tuple" (.tuple xs) = some (.bool true) := rfl
@[simp] theorem isa_tuple_dict (es : List (PyData × PyData)) : isaD "tuple" (.dict es) = some (.bool false) := rfl
@[simp] theorem isa_list_none  : isaD "list" .none = some (.bool false) := rfl
@[simp] theorem isa_list_bool (b : Bool) : isaD "list" (.bool b) = some (.bool false) := rfl
@[simp] theorem isa_list_int (i : Int) : isaD "list" (.int i) = some (.bool false) := rfl
@[simp] theorem isa_list_str (x : Str) : isaD "list" (.str x) = some (.bool false) := rfl
@[simp] theorem isa_list_list (xs : List PyData) : isaD "list" (.list xs) = some (.bool true) := rfl
@[simp] theorem isa_list_tuple (xs : List PyData) : isaD "list" (.tuple xs) = some (.bool false) := rfl
@[simp] theorem isa_list_dict (es : List (PyData × PyData)) : isaD "list" (.dict es) = some (.bool false) := rfl
@[simp] theorem isa_dict_none  : isaD "dict" .none = some (.bool false) := rfl
@[simp] theorem isa_dict_bool (b : Bool) : isaD "dict" (.bool b) = some (.bool false) := rfl
@[simp] theorem isa_dict_int (i : Int) : isaD "dict" (.int i) = some (.bool false) := rfl
@[simp] theorem isa_dict_str (x : Str) : isaD "dict" (.str x) = some (.bool false) := rfl
@[simp] theorem isa_dict_list (xs : List PyData) : isaD "dict" (.list xs) = some (.bool false) := rfl
@[simp] theorem isa_dict_tuple (xs : List PyData) : isaD "dict" (.tuple xs) = some (.bool false) := rfl
@[simp] theorem isa_dict_dict (es : List (PyData × PyData)) : isaD "dict" (.dict es) = some (.bool true) := rfl
@[simp] theorem isN_n : isNone .none = true := rfl
@[simp] theorem isN_bool (b : Bool) : isNone (.bool b) = false := rfl
@[simp] theorem isN_int (i : Int) : isNone (.int i) = false := rfl
@[simp] theorem isN_str (x : Str) : isNone (.str x) = false := rfl
@[simp] theorem isN_list (xs : List PyData) : isNone (.list xs) = false := rfl
@[simp] theorem isN_tuple (xs : List PyData) : isNone (.tuple xs) = false := rfl
@[simp] theorem isN_dict (es : List (PyData × PyData)) : isNone (.dict es) = false := rfl
end
section
variable [Wtp] [Tbl]
/-! ## the store -/
@[simp] theorem end_new (st : Sto) (o : Ob) : endS st.length (.rt (.w (.r st.length)) (st ++ [o])) = .ok (.r st.length) (st ++ [o]) := by
  rw [x_end_r (o := o) (Nat.le_refl _) (by simp)]
  simp
@[simp] theorem take_set {α : Type} (xs : List α) (p : Nat) (x : α) : (xs.set p x).take xs.length = xs.set p x := List.take_of_length_le (by simp)
theorem look_l {i : Nat} {st : Sto} {xs : List PyData} (h : st[i]? = some (.lst xs)) : look st (.r i) = some (.list xs) := by
  show (match st[i]? with
    | some (.lst xs) => some (PyData.list xs)
    | some (.dct kvs) => some (.dict kvs)
    | some (.dtt kvs) => some (.dict kvs)
    | some (.lkd kvs) => some (.dict kvs)
    | some (.lkl xs) => some (.list xs)
    | none => none) = _
  rw [h]
theorem look1_l {i : Nat} {st : Sto} {xs : List PyData} (h : st[i]? = some (.lst xs)) (f : PyData → Rs Wv) : look1 (.r i) st f = f (.list xs) := by
  unfold look1
  rw [look_l h]
theorem isLst_l {i : Nat} {st : Sto} {xs : List PyData} (h : st[i]? = some (.lst xs)) : isLst st (.r i) = true := by
  unfold isLst
  simp [h]
theorem appW_l {i : Nat} {st : Sto} {xs : List PyData} (h : st[i]? = some (.lst xs)) (hl : xs.length < 1000000) (y : PyData) : appW (.r i) [.d y] st = .ok (.d .none) (st.set i (.lst (xs ++ [y]))) := by
  unfold appW
  simp [h, hl]
theorem setW_l {i : Nat} {st : Sto} {xs : List PyData} (h : st[i]? = some (.lst xs)) {t : Int} {q : Nat} (hq : ixN xs.length t = some q) (y : PyData) : setW (.r i) (.d (.int t)) y st = some (st.set i (.lst (xs.set q y))) := by
  unfold setW
  simp [h, hq]
/-! ## pens: lists of three ints -/
def Pen (p : Nat) (st : Sto) : Prop := ∃ a b c : Int, st[p]? = some (.lst [.int a, .int b, .int c])
/-- only the pen at p is turned -/
structure Pn (p : Nat) (st st' : Sto) : Prop where
  len : st'.length = st.length
  pen : Pen p st'
  sm : ∀ i, i ≠ p → st'[i]? = st[i]?
/-- below n only the pen at p is turned -/
structure Px (p n : Nat) (st st' : Sto) : Prop where
  le : n ≤ st'.length
  pen : Pen p st'
  sm : ∀ i, i < n → i ≠ p → st'[i]? = st[i]?
section
variable {p n : Nat} {st st1 st2 : Sto}
theorem Pen.lt (h : Pen p st) : p < st.length := by
  obtain ⟨_, _, _, e⟩ := h
  exact (List.getElem?_eq_some_iff.mp e).1
theorem Pn.refl (h : Pen p st) : Pn p st st := ⟨rfl, h, fun _ _ => rfl⟩
theorem Pn.trans (a : Pn p st st1) (b : Pn p st1 st2) : Pn p st st2 := ⟨b.len.trans a.len, b.pen, fun i hi => (b.sm i hi).trans (a.sm i hi)⟩
theorem Pn.set (h : Pen p st) (a b c : Int) : Pn p st (st.set p (.lst [.int a, .int b, .int c])) :=
  ⟨by simp, ⟨a, b, c, List.getElem?_set_self h.lt⟩, fun i hi => List.getElem?_set_ne (Ne.symm hi)⟩
theorem Pen.app (h : Pen p st) (l : Sto) : Pen p (st ++ l) := by
  obtain ⟨a, b, c, e⟩ := id h
  exact ⟨a, b, c, by rw [List.getElem?_append_left h.lt]; exact e⟩
theorem Px.refl (h : Pen p st) : Px p st.length st st := ⟨Nat.le_refl _, h, fun _ _ _ => rfl⟩
theorem Px.pn (a : Px p n st st1) (b : Pn p st1 st2) : Px p n st st2 := ⟨by rw [b.len]; exact a.le, b.pen, fun i hi hp => (b.sm i hp).trans (a.sm i hi hp)⟩
theorem Px.app (a : Px p n st st1) (l : Sto) : Px p n st (st1 ++ l) := ⟨by rw [List.length_append]; have := a.le; omega, a.pen.app l, fun i hi hp => by rw [List.getElem?_append_left (Nat.lt_of_lt_of_le hi a.le)]; exact a.sm i hi hp⟩
theorem Px.back (a : Px p st.length st st1) (hp : p < st.length) : Pn p st (st1.take st.length) := by
  have hl : (st1.take st.length).length = st.length := by rw [List.length_take]; have := a.le; omega
  refine ⟨hl, ?_, fun i hi => ?_⟩
  · obtain ⟨x, y, z, e⟩ := a.pen
    exact ⟨x, y, z, by rw [List.getElem?_take_of_lt hp]; exact e⟩
  · by_cases q : i < st.length
    · rw [List.getElem?_take_of_lt q]; exact a.sm i q hi
    · rw [List.getElem?_eq_none (by omega), List.getElem?_eq_none (by omega)]
end
theorem rg_ok {i : Int} (h1 : -1000000 ≤ i) (h2 : i ≤ 1000000) : rgOk i = true := by
  unfold rgOk
  rw [decide_eq_true (by omega), decide_eq_true (by omega)]
  rfl
theorem rg1_ok {i : Int} (st : Sto) (h1 : -1000000 ≤ i) (h2 : i ≤ 1000000) : rg1W [.d (.int i)] st = .ok ⟨rangeD 0 i.toNat, []⟩ st := by
  unfold rg1W
  simp [rg_ok h1 h2]
theorem rangeD_len (lo : Int) (n : Nat) : (rangeD lo n).length = n := by simp [rangeD]
theorem rangeD_get {lo : Int} {n i : Nat} {x : PyData} (h : (rangeD lo n)[i]? = some x) : i < n ∧ x = .int (lo + (i : Nat)) := by
  have hi : i < n := by have := (List.getElem?_eq_some_iff.mp h).1; rwa [rangeD_len] at this
  refine ⟨hi, ?_⟩
  unfold rangeD at h
  simp [hi] at h
  exact h.symm
theorem atD_mem {α : Type} {xs : List α} {i : Int} (h1 : 0 ≤ i) (h2 : i < xs.length) : ∃ x, x ∈ xs ∧ atD xs i = some x := by
  obtain ⟨k, rfl⟩ := Int.eq_ofNat_of_zero_le h1
  have hk : k < xs.length := by simpa using h2
  exact ⟨xs[k], List.getElem_mem hk, by rw [atD_nat, List.getElem?_eq_getElem hk]⟩
/-! ## loops on data -/
@[simp] theorem forL_nil (g : Wv → En → Option En) (b : En → Sto → SR) (env : En) (st : Sto) : forL g b [] [] env st = .nx env st := by simp [forL]
@[simp] theorem forL_cons (g : Wv → En → Option En) (b : En → Sto → SR) (x : PyData) (r : List PyData) (env : En) (st : Sto) : forL g b [] (x :: r) env st = match g (.d x) env with
    | some env1 => (b env1 st).seq (forL g b [] r)
    | none => .no := by cases h : g (.d x) env <;> simp [forL, h]
/-- every turn goes on -/
theorem forL_go {g : Wv → En → Option En} {b : En → Sto → SR} (I : En → Sto → Prop) : ∀ (xs : List PyData), (∀ x ∈ xs, ∀ env st, I env st → ∃ env1 env2 st2, g (.d x) env = some env1 ∧ b env1 st = .nx env2 st2 ∧ I env2 st2) →
    ∀ env st, I env st → ∃ env2 st2, forL g b [] xs env st = .nx env2 st2 ∧ I env2 st2
  | [], _, env, st, h => ⟨env, st, by simp, h⟩
  | x :: xs, q, env, st, h => by
    obtain ⟨env1, env2, st2, e1, e2, h2⟩ := q x (by simp) env st h
    obtain ⟨env3, st3, e3, h3⟩ := forL_go I xs (fun y hy => q y (by simp [hy])) env2 st2 h2
    exact ⟨env3, st3, by rw [forL_cons, e1]; simp [e2, e3], h3⟩
/-- every turn goes on, by its number -/
theorem forL_goI {g : Wv → En → Option En} {b : En → Sto → SR} (I : Nat → En → Sto → Prop) : ∀ (xs : List PyData) (k : Nat), (∀ i x, xs[i]? = some x → ∀ env st, I (k + i) env st → ∃ env1 env2 st2, g (.d x) env = some env1 ∧ b env1 st = .nx env2 st2 ∧ I (k + i + 1) env2 st2) →
    ∀ env st, I k env st → ∃ env2 st2, forL g b [] xs env st = .nx env2 st2 ∧ I (k + xs.length) env2 st2
  | [], k, _, env, st, h => ⟨env, st, by simp, h⟩
  | x :: xs, k, q, env, st, h => by
    obtain ⟨env1, env2, st2, e1, e2, h2⟩ := q 0 x rfl env st h
    obtain ⟨env3, st3, e3, h3⟩ := forL_goI I xs (k + 1) (fun i y hy env st hI => by
      have := q (i + 1) y (by simpa using hy) env st (by rw [show k + (i + 1) = k + 1 + i by omega]; exact hI)
      rw [show k + (i + 1) + 1 = k + 1 + i + 1 by omega] at this
      exact this) env2 st2 h2
    exact ⟨env3, st3, by rw [forL_cons, e1]; simp [e2, e3], by rw [List.length_cons, show k + (xs.length + 1) = k + 1 + xs.length by omega]; exact h3⟩
/-- a comprehension of a pure part -/
theorem lcL_map {g : Wv → En → Option En} {c : En → Sto → Rs Wv} {env : En} {st : Sto} {f : PyData → PyData} : ∀ (xs acc : List PyData), (∀ x ∈ xs, ∃ env1, g (.d x) env = some env1 ∧ c env1 st = .ok (.d (f x)) st) → lcL g tYs c [] env xs acc st = .ok (acc ++ xs.map f) st
  | [], acc, _ => by simp [lcL]
  | x :: xs, acc, q => by
    obtain ⟨env1, e1, e2⟩ := q x (by simp)
    have ih := lcL_map (f := f) (g := g) (c := c) (env := env) (st := st) xs (acc ++ [f x]) fun y hy => q y (by simp [hy])
    simp [lcL, e1, e2, ih]
theorem o_all' {α : Type} (xs : List α) (p : α → Bool) : allF [.list (xs.map fun x => .bool (p x))] = some (.bool (xs.all p)) := by
  have := o_all (xs.map p)
  rw [List.map_map] at this
  rw [show (fun x => PyData.bool (p x)) = PyData.bool ∘ p from rfl, this, List.all_map]
  rfl
theorem cutD_len {α : Type} {xs : List α} {lo hi : Option Int} : (cutD xs lo hi).length ≤ xs.length := by
  unfold cutD
  rw [List.length_take, List.length_drop]
  omega
/-! ## what can be shown -/
structure Fd (k n : Nat) (d : PyData) : Prop where
  sh : d.showable = true
  hd : d.hasDict = false
  dp : d.depth ≤ k
  ln : d.shown.length ≤ n
theorem Fd.up {k k' n n' : Nat} {d : PyData} (f : Fd k n d) (h : k ≤ k') (h' : n ≤ n') : Fd k' n' d := ⟨f.sh, f.hd, Nat.le_trans f.dp h, Nat.le_trans f.ln h'⟩
theorem depthAll_le {k : Nat} : ∀ {xs : List PyData}, (∀ x ∈ xs, x.depth ≤ k) → PyData.depthAll xs ≤ k
  | [], _ => Nat.zero_le _
  | x :: xs, h => by
    rw [PyData.depthAll]
    exact Nat.max_le.mpr ⟨h x (by simp), depthAll_le fun y hy => h y (by simp [hy])⟩
/-! ## slots that nothing reads any more are given up -/
def sWp (vs : List Nat) (b : En → Sto → SR) : En → Sto → SR := fun env st => (b env st).seq fun env1 st1 => .nx (wipeE env1 vs) st1
def sWi (vs : List Nat) (b : En → Sto → SR) : En → Sto → SR := fun env st => b (wipeE env vs) st
theorem EnvR.less {K : Frg} {n : Nat} {H : Hp} {m : Mp} {env : En} {σ : L2.St} (h : EnvR K H m n env σ) (i : Nat) : EnvR K H m n (env.set i none) σ := by
  refine ⟨by simp [h.len], fun j u e => ?_⟩
  by_cases q : i = j
  · subst q
    by_cases l : i < env.length
    · rw [List.getElem?_set_self l] at e; cases e
    · rw [List.getElem?_eq_none (by simpa using l)] at e; cases e
  · rw [List.getElem?_set_ne q] at e
    exact h.at' j u e
theorem EnvR.lesss {K : Frg} {n : Nat} {H : Hp} {m : Mp} {env : En} {σ : L2.St} (h : EnvR K H m n env σ) : ∀ vs : List Nat, EnvR K H m n (wipeE env vs) σ
  | [] => h
  | i :: vs => (EnvR.lesss h vs).less i
theorem db_wp {X : Cx} {es : List Stmt} {c : En → Sto → SR} (vs : List Nat) (h : DB X es c) : DB X es (sWp vs c) := by
  refine ⟨fun W tk => PSs.imp (h.pss W tk) fun D σ H ⟨m, env, st, S, R, hp⟩ => ⟨m, env, st, S, R, ?_⟩⟩
  unfold sWp at hp
  rw [SR.post_seq] at hp
  exact SR.post_mono hp (fun env1 st1 q σ1 H1 m1 f1 S1 R1 => q σ1 H1 m1 f1 S1 (R1.lesss vs)) (fun _ _ q => q) fun _ _ q => q
theorem ds_wi {X : Cx} {e : Stmt} {c : En → Sto → SR} (vs : List Nat) (h : DS X e c) : DS X e (sWi vs c) :=
  ⟨fun W tk => PS.imp (h.ps W tk) fun D σ H ⟨m, env, st, S, R, hp⟩ => ⟨m, wipeE env vs, st, S, R.lesss vs, hp⟩⟩
@[simp] theorem x_wp (vs : List Nat) (b : En → Sto → SR) (env : En) (st : Sto) : sWp vs b env st = (b env st).seq fun env1 st1 => .nx (wipeE env1 vs) st1 := rfl
@[simp] theorem x_wi (vs : List Nat) (b : En → Sto → SR) (env : En) (st : Sto) : sWi vs b env st = b (wipeE env vs) st := rfl
@[simp] theorem wipe_nil (env : En) : wipeE env [] = env := rfl
@[simp] theorem wipe_cons (env : En) (i : Nat) (vs : List Nat) : wipeE env (i :: vs) = (wipeE env vs).set i none := rfl
/-- every turn goes on; what there is behind i turns is known -/
theorem forL_at {g : Wv → En → Option En} {b : En → Sto → SR} (E : Nat → En) (S : Nat → Sto) (xs : List PyData) (h : ∀ i x, xs[i]? = some x → ∃ env1, g (.d x) (E i) = some env1 ∧ b env1 (S i) = .nx (E (i + 1)) (S (i + 1))) :
    forL g b [] xs (E 0) (S 0) = .nx (E xs.length) (S xs.length) := by
  obtain ⟨env, st, e, rfl, rfl⟩ := forL_goI (g := g) (b := b) (fun i env st => env = E i ∧ st = S i) xs 0 (fun i x hx env st hI => by
    rw [Nat.zero_add] at hI ⊢
    obtain ⟨rfl, rfl⟩ := hI
    obtain ⟨env1, e1, e2⟩ := h i x hx
    exact ⟨env1, _, _, e1, e2, rfl, rfl⟩) (E 0) (S 0) ⟨rfl, rfl⟩
  rw [e, Nat.zero_add]
/-- what a loop that only seeks gives -/
def seek (r : Option Rt) (env : En) (st : Sto) : SR := match r with
  | some r => .rt r st
  | none => .nx env st
@[simp] theorem seek_some (r : Rt) (env : En) (st : Sto) : seek (some r) env st = .rt r st := rfl
@[simp] theorem seek_none (env : En) (st : Sto) : seek none env st = .nx env st := rfl
end
section
variable [Wtp] [Tbl]
/-! ## new lists of the store that an operation makes -/
def mulN : PyData → PyData → Option (List PyData)
  | .list xs, .int k => if 0 ≤ k ∧ k ≤ 1000 ∧ xs.length ≤ 1000 then some (List.replicate k.toNat xs).flatten else none
  | _, _ => none
def newO (r : Option (List PyData)) (st : Sto) : Rs Wv := match r with
  | some xs => .ok (.r st.length) (st ++ [.lst xs])
  | none => .no
@[simp] theorem newO_some (xs : List PyData) (st : Sto) : newO (some xs) st = .ok (.r st.length) (st ++ [.lst xs]) := rfl
def eOp2N (f : PyData → PyData → Option (List PyData)) (ca cb : En → Sto → Rs Wv) : En → Sto → Rs Wv := fun env st => (ca env st).bind fun a st1 => (cb env st1).bind fun b st2 => look1 a st2 fun d => look1 b st2 fun e => newO (f d e) st2
def eOpNN (f : List PyData → Option (List PyData)) (cs : En → Sto → Rs (List Wv)) : En → Sto → Rs Wv := fun env st => (cs env st).bind fun ws st1 => match looks ws st1 with
  | some ds => newO (f ds) st1
  | none => .no
@[simp] theorem x_op2n (f : PyData → PyData → Option (List PyData)) (a b : En → Sto → Rs Wv) (env : En) (st : Sto) : eOp2N f a b env st = (a env st).bind fun v st1 => (b env st1).bind fun w st2 => look1 v st2 fun d => look1 w st2 fun e => newO (f d e) st2 := rfl
@[simp] theorem x_opnn (f : List PyData → Option (List PyData)) (c : En → Sto → Rs (List Wv)) (env : En) (st : Sto) : eOpNN f c env st = (c env st).bind fun ws st1 => match looks ws st1 with
  | some ds => newO (f ds) st1
  | none => .no := rfl
@[simp] theorem o_mulN (xs : List PyData) (k : Int) : mulN (.list xs) (.int k) = if 0 ≤ k ∧ k ≤ 1000 ∧ xs.length ≤ 1000 then some (List.replicate k.toNat xs).flatten else none := rfl
section
variable {M : Md} {X : Cx} {B : Tb} {k : Nat} {σ : L2.St} {H : Hp} {m : Mp} {W : WX} {ca cb : En → Sto → Rs Wv} {cs : En → Sto → Rs (List Wv)} {pos p : Pos} {a b : Expr}
def slDN (lo hi : Option Int) : PyData → Option (List PyData)
  | .list xs => some (cutD xs lo hi)
  | _ => none
def eSliceN (c : En → Sto → Rs Wv) (l h : En → Sto → Rs (Option Int)) : En → Sto → Rs Wv := fun env st => (c env st).bind fun w st1 => (l env st1).bind fun lo st2 => (h env st2).bind fun hi st3 => look1 w st3 fun d => newO (slDN lo hi d) st3
@[simp] theorem o_slDN (lo hi : Option Int) (xs : List PyData) : slDN lo hi (.list xs) = some (cutD xs lo hi) := rfl
@[simp] theorem x_sliceN (env : En) (st : Sto) (c : En → Sto → Rs Wv) (l h : En → Sto → Rs (Option Int)) : eSliceN c l h env st = ((c env st).bind fun w st1 => (l env st1).bind fun i st2 => (h env st2).bind fun j st3 => look1 w st3 fun d => newO (slDN i j d) st3) := rfl
/-! a, b = x, y where a name lies in a cell: stores' lists too -/
def gWNl : List Wv → En → Option En := fun ws env => match ws with
  | [] => some env
  | _ => none
def gWCn (g : Wv → En → Option En) (h : List Wv → En → Option En) : List Wv → En → Option En := fun ws env => match ws with
  | w :: r => (g w env).bind (h r)
  | [] => none
def sAsgW (g : List Wv → En → Option En) (cs : En → Sto → Rs (List Wv)) : En → Sto → SR := fun env st => (cs env st).sb fun ws st1 => match g ws env with
  | some env' => .nx env' st1
  | none => .no
@[simp] theorem x_asgW (g : List Wv → En → Option En) (cs : En → Sto → Rs (List Wv)) (env : En) (st : Sto) : sAsgW g cs env st = (cs env st).sb fun ws st1 => match g ws env with | some env' => .nx env' st1 | none => .no := rfl
@[simp] theorem x_gWNl (env : En) : gWNl [] env = some env := rfl
@[simp] theorem x_gWCn (g : Wv → En → Option En) (h : List Wv → En → Option En) (w : Wv) (r : List Wv) (env : En) : gWCn g h (w :: r) env = (g w env).bind (h r) := rfl
end
/-! ## a, b = x, y where one of the names is captured -/
section
variable {M : Md} {X : Cx} {B : Tb} {k : Nat} {x y z : Str} {px py pz pt pt2 : Pos} {kt k2 : Nat} {vs : List Expr}
theorem notLoc (c : Cxt M X B k) (h : x ∈ B.cs) : ¬ X.env.kindOf x = some NameKind.local := by
  rcases c.cs x h with e | e
  · rw [show X.env.kindOf x = some .cell from e]; decide
  · rw [show X.env.kindOf x = some .free from e]; decide
theorem sw2n (c : Cxt M X B k) (h : x ∈ B.cs ∨ y ∈ B.cs) : swappedStores [.Tuple [.Name x px, .Name y py] kt pt] (.Tuple vs k2 pt2) X.env = pure none := by
  unfold swappedStores
  rcases h with h | h
  · have e := notLoc c h
    by_cases q : X.env.kindOf y = some NameKind.local ∧ py.line = px.line <;> simp [e, q, Expr.pos, List.filterMap_cons]
  · have e := notLoc c h
    by_cases q : X.env.kindOf x = some NameKind.local <;> simp [e, q, Expr.pos, List.filterMap_cons]
end
/-! ## a comprehension that draws -/
theorem lcL_pen {g : Wv → En → Option En} {c : En → Sto → Rs Wv} {env : En} {p : Nat} (Q : PyData → Prop) : ∀ (xs acc : List PyData) (st : Sto), Pen p st → (∀ x ∈ xs, ∀ st, Pen p st → ∃ env1 y st', g (.d x) env = some env1 ∧ c env1 st = .ok (.d y) st' ∧ Q y ∧ Pn p st st') →
    ∃ ys st', lcL g tYs c [] env xs acc st = .ok (acc ++ ys) st' ∧ ys.length = xs.length ∧ (∀ y ∈ ys, Q y) ∧ Pn p st st'
  | [], acc, st, h, _ => ⟨[], st, by simp [lcL], rfl, fun y hy => absurd hy List.not_mem_nil, .refl h⟩
  | x :: xs, acc, st, h, q => by
    obtain ⟨env1, y, st1, e1, e2, hy, pn⟩ := q x (by simp) st h
    obtain ⟨ys, st2, e3, hl, hys, pn2⟩ := lcL_pen Q xs (acc ++ [y]) st1 pn.pen fun z hz => q z (by simp [hz])
    refine ⟨y :: ys, st2, by simp [lcL, e1, e2, e3], by simp [hl], fun z hz => ?_, pn.trans pn2⟩
    rcases List.mem_cons.mp hz with rfl | hz
    · exact hy
    · exact hys z hz
/-- data that are ints -/
theorem ints_of {P : Int → Prop} : ∀ {ys : List PyData}, (∀ y ∈ ys, ∃ i, y = .int i ∧ P i) → ∃ ns : List Int, ys = ns.map .int ∧ ns.length = ys.length ∧ ∀ n ∈ ns, P n
  | [], _ => ⟨[], rfl, rfl, fun n hn => absurd hn List.not_mem_nil⟩
  | y :: ys, h => by
    obtain ⟨i, rfl, hi⟩ := h y (by simp)
    obtain ⟨ns, rfl, hl, hn⟩ := ints_of (P := P) (ys := ys) fun z hz => h z (List.mem_cons_of_mem _ hz)
    refine ⟨i :: ns, rfl, by simp, fun n hn' => ?_⟩
    rcases List.mem_cons.mp hn' with rfl | q
    · exact hi
    · exact hn n q
/-! ## loops over lists of the store -/
theorem atD_last {α : Type} (xs : List α) (z : α) : atD (xs ++ [z]) (-1) = some z := by
  unfold atD ixN
  have hl : (xs ++ [z]).length = xs.length + 1 := by simp
  rw [if_neg (by decide), if_pos (by rw [hl]; omega)]
  have e : (-1 + (((xs ++ [z]).length : Nat) : Int)).toNat = xs.length := by rw [hl]; omega
  show (xs ++ [z])[(-1 + (((xs ++ [z]).length : Nat) : Int)).toNat]? = some z
  rw [e]
  simp
theorem sum_le {a b : Int} : ∀ {ls : List Int}, (∀ l ∈ ls, a ≤ l ∧ l ≤ b) → a * ls.length ≤ ls.sum ∧ ls.sum ≤ b * ls.length
  | [], _ => by simp
  | l :: ls, h => by
    have ih := sum_le (ls := ls) fun x hx => h x (by simp [hx])
    have hl := h l (by simp)
    rw [List.sum_cons, List.length_cons]
    have e1 : a * ((ls.length + 1 : Nat) : Int) = a * ls.length + a := by rw [Int.natCast_add, Int.mul_add]; simp
    have e2 : b * ((ls.length + 1 : Nat) : Int) = b * ls.length + b := by rw [Int.natCast_add, Int.mul_add]; simp
    omega
end
section
variable [Wtp] [Tbl]
/-! ### {k: v, ..} that nobody writes -/
def pairsW : List Wv → Option (List (PyData × PyData))
  | [] => some []
  | .d c :: .d y :: ws => match keyD c, pairsW ws with
    | some _, some es => some ((c, y) :: es)
    | _, _ => none
  | _ => none
def mergeD (es more : List (PyData × PyData)) : List (PyData × PyData) := more.foldl (fun acc e => match keyD e.1 with
  | some k => dPut acc k e.1 e.2
  | none => acc) es
def dicW (ws : List Wv) (st : Sto) : Rs Wv := match pairsW ws with
  | some es => if es.length ≤ 15 then .ok (.d (.dict (mergeD [] es))) st else .no
  | none => .no
def eDic (cs : En → Sto → Rs (List Wv)) : En → Sto → Rs Wv := fun env st => (cs env st).bind dicW
@[simp] theorem x_dic (env : En) (st : Sto) (cs : En → Sto → Rs (List Wv)) : eDic cs env st = (cs env st).bind dicW := rfl
/-! ### least and greatest of a list -/
open PySem.W in
def alikeB (xs : List PyData) : Bool := xs.all (fun x => xs.all (alike x)) && xs.all (fun x => match x with | .none => false | _ => true)
open PySem.W in
def bestF (f : PyData → List PyData → PyData) : List PyData → Option PyData
  | [d] => match seqOf d with
    | some (x :: xs) => if alikeB (x :: xs) = true ∧ PyData.depthAll (x :: xs) ≤ 40 then some (f x xs) else none
    | _ => none
  | _ => none
end
section
variable [Wtp] [Tbl]
/-! ### calls with keywords -/
def eOpK (f : List PyData → List PyData → Option PyData) (cs ck : En → Sto → Rs (List Wv)) : En → Sto → Rs Wv := fun env st =>
  (cs env st).bind fun ws st1 => (ck env st1).bind fun zs st2 => match looks ws st2, looks zs st2 with
    | some ds, some es => ret1 (f ds es) st2
    | _, _ => .no
@[simp] theorem x_opK (env : En) (st : Sto) (f : List PyData → List PyData → Option PyData) (cs ck : En → Sto → Rs (List Wv)) : eOpK f cs ck env st = ((cs env st).bind fun ws st1 => (ck env st1).bind fun zs st2 => match looks ws st2, looks zs st2 with
    | some ds, some es => ret1 (f ds es) st2
    | _, _ => .no) := rfl
def eOpKN (f : List PyData → List PyData → Option (List PyData)) (cs ck : En → Sto → Rs (List Wv)) : En → Sto → Rs Wv := fun env st =>
  (cs env st).bind fun ws st1 => (ck env st1).bind fun zs st2 => match looks ws st2, looks zs st2 with
    | some ds, some es => newO (f ds es) st2
    | _, _ => .no
@[simp] theorem x_opKN (env : En) (st : Sto) (f : List PyData → List PyData → Option (List PyData)) (cs ck : En → Sto → Rs (List Wv)) : eOpKN f cs ck env st = ((cs env st).bind fun ws st1 => (ck env st1).bind fun zs st2 => match looks ws st2, looks zs st2 with
    | some ds, some es => newO (f ds es) st2
    | _, _ => .no) := rfl
section
variable {M : Md} {X : Cx} {B : Tb} {k : Nat} {σ : L2.St} {H : Hp} {W : WX} {cs ck : En → Sto → Rs (List Wv)} {ca : En → Sto → Rs Wv} {pos p : Pos} {e : Expr} {es : List Expr} {kws : List Keyword}
theorem PK.imp {e : List Keyword} {t t' : TA} (h : PK X e t) (q : ∀ σ H Q, t' σ H Q → t σ H Q) : PK X e t' := ⟨fun pos pins s σ H Q I x => h.run pos pins s σ H Q I (q σ H Q x)⟩
end
/-! ### a comprehension given to a captured name -/
/-! ### min(xs, default=d), max(xs, default=d) -/
open PySem.W in
def bestK (f : PyData → List PyData → PyData) : List PyData → List PyData → Option PyData
  | [d], [e] => match seqOf d with
    | some [] => (match e with
      | .none => some .none
      | .int i => some (.int i)
      | _ => none)
    | some (x :: xs) => if alikeB (x :: xs) = true ∧ PyData.depthAll (x :: xs) ≤ 40 then some (f x xs) else none
    | none => none
  | _, _ => none
end
section
variable [Wtp] [Tbl]
/-! ### best and sorted of alike data -/
open PySem.W in
theorem alikeB_of {P : PyData → Prop} {xs : List PyData} (h : ∀ x ∈ xs, P x) (hp : ∀ x y, P x → P y → alike x y = true) (hn : ∀ x, P x → x ≠ .none) : alikeB xs = true := by
  unfold alikeB
  rw [Bool.and_eq_true, List.all_eq_true, List.all_eq_true]
  refine ⟨fun x hx => List.all_eq_true.mpr fun y hy => hp x y (h x hx) (h y hy), fun x hx => ?_⟩
  have := hn x (h x hx)
  cases x <;> first | rfl | exact absurd rfl this
theorem best_ok {f : PyData → List PyData → PyData} {x : PyData} {xs : List PyData} (h : alikeB (x :: xs) = true) (hd : ∀ y ∈ x :: xs, y.depth ≤ 40) : bestF f [.list (x :: xs)] = some (f x xs) := by
  have hd' := depthAll_le hd
  unfold bestF seqOf
  dsimp only
  rw [if_pos ⟨h, hd'⟩]
@[simp] theorem bestK_nil_n (f : PyData → List PyData → PyData) : bestK f [.list []] [.none] = some .none := rfl
@[simp] theorem bestK_nil_i (f : PyData → List PyData → PyData) (i : Int) : bestK f [.list []] [.int i] = some (.int i) := rfl
@[simp] theorem bestK_nilT_n (f : PyData → List PyData → PyData) : bestK f [.tuple []] [.none] = some .none := rfl
@[simp] theorem bestK_nilT_i (f : PyData → List PyData → PyData) (i : Int) : bestK f [.tuple []] [.int i] = some (.int i) := rfl
/-! ### ints -/
def IsI (d : PyData) : Prop := ∃ i : Int, d = .int i
theorem isI_alike (x y : PyData) (h : IsI x) (k : IsI y) : PySem.W.alike x y = true := by obtain ⟨i, rfl⟩ := h; obtain ⟨j, rfl⟩ := k; rfl
theorem isI_nn (x : PyData) (h : IsI x) : x ≠ .none := by obtain ⟨i, rfl⟩ := h; exact fun z => nomatch z
@[simp] theorem depth_int (i : Int) : (PyData.int i).depth = 0 := rfl
@[simp] theorem depth_pair (i j : Int) : (PyData.tuple [.int i, .int j]).depth = 1 := rfl
theorem ints_I (ns : List Int) : ∀ x ∈ ns.map PyData.int, IsI x := fun x hx => by obtain ⟨i, _, rfl⟩ := List.mem_map.mp hx; exact ⟨i, rfl⟩
theorem isI_d {x : PyData} (h : IsI x) : x.depth ≤ 40 := by obtain ⟨i, rfl⟩ := h; exact Nat.zero_le _
/-- the least, the greatest of ints -/
def mnI (x : Int) (xs : List Int) : Int := xs.foldl (fun a y => if y < a then y else a) x
def mxI (x : Int) (xs : List Int) : Int := xs.foldl (fun a y => if a < y then y else a) x
theorem dataLt_i (i j : Int) : PySem.W.dataLt (.int i) (.int j) = decide (i < j) := by
  have h := congrFun (congrFun (PySem.W.dataLe_int (fun x : Int => x)) j) i
  have h2 : PySem.W.dataLe false (fun b : Int => PyData.int b) j i = !PySem.W.dataLt (.int i) (.int j) := rfl
  rw [h2] at h
  have : (!PySem.W.dataLt (.int i) (.int j)) = decide (j ≤ i) := h
  by_cases q : i < j
  · have e : decide (j ≤ i) = false := by simp; omega
    rw [e] at this
    simpa [q] using this
  · have e : decide (j ≤ i) = true := by simp; omega
    rw [e] at this
    simpa [q] using this
theorem minD_int : ∀ (xs : List Int) (x : Int), PySem.W.minD (.int x) (xs.map .int) = .int (mnI x xs)
  | [], x => rfl
  | y :: ys, x => by
    show PySem.W.minD (if PySem.W.dataLt (.int y) (.int x) then .int y else .int x) (ys.map .int) = .int (mnI (if y < x then y else x) ys)
    rw [dataLt_i]
    by_cases q : y < x
    · rw [if_pos (by simpa using q), if_pos q]; exact minD_int ys y
    · rw [if_neg (by simpa using q), if_neg q]; exact minD_int ys x
theorem maxD_int : ∀ (xs : List Int) (x : Int), PySem.W.maxD (.int x) (xs.map .int) = .int (mxI x xs)
  | [], x => rfl
  | y :: ys, x => by
    show PySem.W.maxD (if PySem.W.dataLt (.int x) (.int y) then .int y else .int x) (ys.map .int) = .int (mxI (if x < y then y else x) ys)
    rw [dataLt_i]
    by_cases q : x < y
    · rw [if_pos (by simpa using q), if_pos q]; exact maxD_int ys y
    · rw [if_neg (by simpa using q), if_neg q]; exact maxD_int ys x
@[simp] theorem o_min_ints (x : Int) (xs : List Int) : bestF PySem.W.minD [.list ((x :: xs).map .int)] = some (.int (mnI x xs)) := by
  have hI := ints_I (x :: xs)
  rw [List.map_cons] at hI ⊢
  rw [best_ok (alikeB_of hI isI_alike isI_nn) fun y hy => isI_d (hI y hy), minD_int]
@[simp] theorem o_max_ints (x : Int) (xs : List Int) : bestF PySem.W.maxD [.list ((x :: xs).map .int)] = some (.int (mxI x xs)) := by
  have hI := ints_I (x :: xs)
  rw [List.map_cons] at hI ⊢
  rw [best_ok (alikeB_of hI isI_alike isI_nn) fun y hy => isI_d (hI y hy), maxD_int]
/-! ### lists of the store as sources -/
theorem srcW_dl (xs : List PyData) (st : Sto) : srcW (.d (.list xs)) st = .ok ⟨xs, []⟩ st := rfl
theorem srcW_dt (xs : List PyData) (st : Sto) : srcW (.d (.tuple xs)) st = .ok ⟨xs, []⟩ st := rfl
/-! ### the same shown twice is the same -/
end
section
variable [Wtp] [Tbl]
/-! ### list(range(n)), tuple(range(n)) -/
def rgLW (tup : Bool) (w : Wv) (st : Sto) : Rs Wv := match w with
  | .d (.int n) => if n ≤ 1000000 ∧ -1000000 ≤ n then .ok (.d (if tup then .tuple (rangeD 0 n.toNat) else .list (rangeD 0 n.toNat))) st else .no
  | _ => .no
def eRgL (tup : Bool) (c : En → Sto → Rs Wv) : En → Sto → Rs Wv := fun env st => (c env st).bind (rgLW tup)
@[simp] theorem x_rgL (env : En) (st : Sto) (t : Bool) (c : En → Sto → Rs Wv) : eRgL t c env st = (c env st).bind (rgLW t) := rfl
/-! ### methods of lists that read -/
def isLd (st : Sto) (w : Wv) : Bool := match look st w with
  | some (.list _) => true
  | _ => false
@[simp] theorem isLd_d (xs : List PyData) (st : Sto) : isLd st (.d (.list xs)) = true := rfl
def eMd (f : PyData → List PyData → Option PyData) (co : En → Sto → Rs Wv) (cs : En → Sto → Rs (List Wv)) : En → Sto → Rs Wv := fun env st => (co env st).bind fun w st1 => if isLd st1 w = true then (cs env st1).bind fun ws st2 => match look st2 w, looks ws st2 with
    | some d, some ds => ret1 (f d ds) st2
    | _, _ => .no
  else .no
@[simp] theorem x_md (env : En) (st : Sto) (f : PyData → List PyData → Option PyData) (co : En → Sto → Rs Wv) (cs : En → Sto → Rs (List Wv)) : eMd f co cs env st = ((co env st).bind fun w st1 => if isLd st1 w = true then (cs env st1).bind fun ws st2 => match look st2 w, looks ws st2 with
    | some d, some ds => ret1 (f d ds) st2
    | _, _ => .no
  else .no) := rfl
def rMd (K : Frg) (f : PyData → List PyData → Option PyData) : V → List V → Hp → VK → Prop := fun v vs H Q => ∃ Z d ds r, (∀ a, H a = none → Z a) ∧ RT K H Z v d ∧ RTs K H Z vs ds ∧ f d ds = some r ∧ rOut K H Z r Q
section
variable {M : Md} {X : Cx} {B : Tb} {k : Nat} {pins : List (Addr × Obj)} {σ : L2.St} {H : Hp} {s : Shared} {W : WX} {pos apos : Pos} {o e : Expr} {es : List Expr} {co : En → Sto → Rs Wv} {cs : En → Sto → Rs (List Wv)}
theorem te_md (f : PyData → List PyData → Option PyData) {Q : VK} (h : tE X W (eMd f co cs) σ H Q) : tBM X.K "list" (rMd X.K f) (tE X W co) (tA X W cs) σ H Q := by
  obtain ⟨m, env, st, S, R, hp⟩ := h
  unfold eMd at hp
  rw [Rs.post_bind] at hp
  refine ⟨m, env, st, S, R, Rs.post_mono hp (fun w st1 q1 v H1 m1 f1 S1 r1 => ?_) fun _ _ q => q⟩
  split at q1
  · rename_i hw
    rw [Rs.post_bind] at q1
    have ty : tyV X.K "list" v H1 := by
      unfold isLd at hw
      split at hw
      · rename_i xs e1
        obtain ⟨a, vs, rfl, h1, h2⟩ := (look_rt S1 r1 e1).lst
        exact .inl ⟨rfl, vs, h1.sq⟩
      · cases hw
    refine ⟨ty, m1, env, st1, S1, R.mv f1, Rs.post_mono q1 (fun ws st2 q2 vs H2 m2 f2 S2 r2 => ?_) fun _ _ z => okX.tr f1 z⟩
    split at q2
    · rename_i d ds e1 e2
      obtain ⟨r, e3, q⟩ := ret1_post q2
      exact ⟨_, d, ds, r, fun a => S2.fresh, look_rt S2 (r1.mv f2) e1, looks_rt S2 r2 e2, e3, okE.out (f1.trans f2) S2 q⟩
    · exact q2.elim
  · exact q1.elim
/-- l.count(x) -/
def cntD : PyData → List PyData → Option PyData
  | .list xs, [d] => if PyData.plainAll xs = true ∧ d.plain = true ∧ min (PyData.depthAll xs) d.depth ≤ 40 then some (.int ((xs.countP fun y => PyData.eqv y d : Nat))) else none
  | _, _ => none
theorem m_count (hr : L2H.RoomH k X.A) : MtR X "list.count" (rMd X.K cntD) := by
  intro pins s σ H x xs v us Q I rx rxs ⟨Z, d, ds, r, hz, hd, hds, hf, ho⟩
  have hu := room_eq hr (show 60 ≤ 60 by decide)
  unfold cntD at hf
  split at hf
  · rename_i ys y
    split at hf
    · rename_i hc
      cases hf
      obtain ⟨a, vs, rfl, h1, h2⟩ := hd.lst
      obtain ⟨z, rfl, h'⟩ := rts1 hds
      obtain ⟨u', rfl, rz'⟩ := vals1 rxs
      cases rx
      obtain ⟨its, rv, hl, _⟩ := I.list h1.sq
      obtain ⟨as, rd⟩ := RpA.reads I _ vs its h2 rv
      obtain ⟨bs, rb⟩ := Inv.rt I h' rz'
      exact PySem.SeqAt.count_list_data hl.isList (by simpa using rd) rb hc.1 hc.2.1 (by omega) ⟨.int _, H, I.tok _, ⟨_, rfl⟩, rout_here ho (.int _)⟩
    · cases hf
  · cases hf
end
end
section
variable [Wtp] [Tbl]
/-! ### data of a type -/
open PySem.W (Datum DatumOrd Tup minOf maxOf)
/-! ### ints in order -/
/-! ### a list, wherever -/
def LsIn (st : Sto) (w : Wv) (xs : List PyData) : Prop := w = .d (.list xs) ∨ ∃ i, w = .r i ∧ st[i]? = some (.lst xs)
section
variable {st : Sto} {w : Wv} {xs : List PyData}
theorem LsIn.keep (h : LsIn st w xs) {st' : Sto} (q : ∀ i, i < st.length → st'[i]? = st[i]?) : LsIn st' w xs := by
  rcases h with rfl | ⟨i, rfl, e⟩
  · exact .inl rfl
  · exact .inr ⟨i, rfl, by rw [q i (List.getElem?_eq_some_iff.mp e).1]; exact e⟩
theorem LsIn.app (h : LsIn st w xs) (l : Sto) : LsIn (st ++ l) w xs := h.keep fun i hi => List.getElem?_append_left hi
end
/-! ### x is True -/
end
section
variable [Wtp] [Tbl]
/-! ## dicts of the store that are walked: pinned from there on -/
def frzV (w : Wv) (st1 : Sto) : Rs Wv := match w with
  | .r i => match st1[i]? with
    | some (.dct es) => .ok (.d (.dict es)) (st1.set i (.lkd es))
    | some (.dtt es) => .ok (.d (.dict es)) (st1.set i (.lkd es))
    | some (.lkd es) => .ok (.d (.dict es)) st1
    | some (.lst xs) => .ok (.d (.list xs)) (st1.set i (.lkl xs))
    | some (.lkl xs) => .ok (.d (.list xs)) st1
    | _ => .ok (.r i) st1
  | w => .ok w st1
def eFrz (c : En → Sto → Rs Wv) : En → Sto → Rs Wv := fun env st => (c env st).bind frzV
@[simp] theorem x_frz (env : En) (st : Sto) (c : En → Sto → Rs Wv) : eFrz c env st = (c env st).bind frzV := rfl
@[simp] theorem frzV_d (x : PyData) (st : Sto) : frzV (.d x) st = .ok (.d x) st := rfl
section
variable {M : Md} {X : Cx} {B : Tb} {k : Nat} {pins : List (Addr × Obj)} {σ : L2.St} {H : Hp} {s : Shared} {m : Mp} {env : En} {st : Sto} {W : WX} {pos apos p5 : Pos} {o e f : Expr} {co ce cf : En → Sto → Rs Wv}
/-! ## d.get(k), d.get(k, x) -/
/-- what stands at a key -/
def getO (d c : PyData) : Option (Option PyData) := match d with
  | .dict es => match keyD c with
    | some q => if kindK es = true then some (dLook es q) else none
    | none => match tkD c with
      | some q => if kindT es = true then some (dLookT es q) else none
      | none => none
  | _ => none
def isDk (st : Sto) (w : Wv) : Bool := match look st w with
  | some (.dict _) => true
  | _ => false
@[simp] theorem isDk_d (es : List (PyData × PyData)) (st : Sto) : isDk st (.d (.dict es)) = true := rfl
def eGet1 (co ce : En → Sto → Rs Wv) : En → Sto → Rs Wv := fun env st => (co env st).bind fun w st1 => if isDk st1 w = true then (ce env st1).bind fun j st2 => look1 w st2 fun d => look1 j st2 fun c => ret1 ((getO d c).map fun o => o.getD .none) st2 else .no
def eGet2 (co ce cf : En → Sto → Rs Wv) : En → Sto → Rs Wv := fun env st => (co env st).bind fun w st1 => if isDk st1 w = true then (ce env st1).bind fun j st2 => (cf env st2).bind fun y st3 => look1 w st3 fun d => look1 j st3 fun c => (match y with | .d z => ret1 ((getO d c).map fun o => o.getD z) st3 | _ => .no) else .no
@[simp] theorem x_get1 (env : En) (st : Sto) (co ce : En → Sto → Rs Wv) : eGet1 co ce env st = ((co env st).bind fun w st1 => if isDk st1 w = true then (ce env st1).bind fun j st2 => look1 w st2 fun d => look1 j st2 fun c => ret1 ((getO d c).map fun o => o.getD .none) st2 else .no) := rfl
@[simp] theorem x_get2 (env : En) (st : Sto) (co ce cf : En → Sto → Rs Wv) : eGet2 co ce cf env st = ((co env st).bind fun w st1 => if isDk st1 w = true then (ce env st1).bind fun j st2 => (cf env st2).bind fun y st3 => look1 w st3 fun d => look1 j st3 fun c => (match y with | .d z => ret1 ((getO d c).map fun o => o.getD z) st3 | _ => .no) else .no) := rfl
/-! ## str of an int, dict of a dict -/
def dcpF : List PyData → Option (List (PyData × PyData))
  | [.dict es] => if kindK es = true ∧ es ≠ [] then some es else none
  | _ => none
def eDcp (cs : En → Sto → Rs (List Wv)) : En → Sto → Rs Wv := fun env st => (cs env st).bind fun ws st1 => match looks ws st1 with
  | some ds => match dcpF ds with
    | some es => .ok (.r st1.length) (st1 ++ [.dct es])
    | none => .no
  | none => .no
@[simp] theorem x_dcp (env : En) (st : Sto) (cs : En → Sto → Rs (List Wv)) : eDcp cs env st = (cs env st).bind fun ws st1 => match looks ws st1 with
  | some ds => match dcpF ds with
    | some es => .ok (.r st1.length) (st1 ++ [.dct es])
    | none => .no
  | none => .no := rfl
/-! ## list(d): a dict's keys -/
end
end
section
variable [Wtp] [Tbl]
/-! ## xs.clear() -/
section
variable {M : Md} {X : Cx} {B : Tb} {k : Nat} {pins : List (Addr × Obj)} {σ : L2.St} {H : Hp} {s : Shared} {m : Mp} {env : En} {st : Sto} {W : WX} {pos apos p5 : Pos} {o e f : Expr} {co ce cf : En → Sto → Rs Wv} {cs : En → Sto → Rs (List Wv)}
/-! ## x[i], y[j] = a, b -/
noncomputable def swpW (o1 i1 o2 i2 : En → Sto → Rs Wv) (env : En) (ws : List Wv) (st1 : Sto) : SR := match ws with
  | [.d x, .d y] => (o1 env st1).sb fun w1 st2 => (i1 env st2).sb fun j1 st3 => match setW w1 j1 x st3 with
    | some st4 => (o2 env st4).sb fun w2 st5 => (i2 env st5).sb fun j2 st6 => match setW w2 j2 y st6 with
      | some st7 => .nx env st7
      | none => .no
    | none => .no
  | _ => .no
noncomputable def sSwp (o1 i1 o2 i2 : En → Sto → Rs Wv) (cs : En → Sto → Rs (List Wv)) : En → Sto → SR := fun env st => (cs env st).sb (swpW o1 i1 o2 i2 env)
@[simp] theorem x_swp (o1 i1 o2 i2 : En → Sto → Rs Wv) (cs : En → Sto → Rs (List Wv)) (env : En) (st : Sto) : sSwp o1 i1 o2 i2 cs env st = (cs env st).sb (swpW o1 i1 o2 i2 env) := rfl
end
/-! ## dict(xs) of a list of pairs, the keys tuples -/
open Classical in
noncomputable def prsD : List PyData → Option (List (PyData × PyData))
  | [] => some []
  | .tuple [c, d] :: r => match prsD r with
    | some es => if (tkD c).isSome = true ∧ c ∉ Wtp.W then some ((c, d) :: es) else none
    | none => none
  | _ :: _ => none
def dctT (es : List (PyData × PyData)) : List (PyData × PyData) := es.foldl (fun acc p => dPutT acc ((tkD p.1).getD []) p.1 p.2) []
noncomputable def dprW (ws : List Wv) (st1 : Sto) : Rs Wv := match looks ws st1 with
  | some [.list ds] => match prsD ds with
    | some es => .ok (.r st1.length) (st1 ++ [.dtt (dctT es)])
    | none => .no
  | _ => .no
noncomputable def eDpr (cs : En → Sto → Rs (List Wv)) : En → Sto → Rs Wv := fun env st => (cs env st).bind dprW
@[simp] theorem x_dpr (env : En) (st : Sto) (cs : En → Sto → Rs (List Wv)) : eDpr cs env st = (cs env st).bind dprW := rfl
end
section
variable [Wtp] [Tbl]
/-! ## try whose body lets nothing out -/
theorem Cxt.nox {M : Md} {X : Cx} {B : Tb} {k : Nat} (c : Cxt M X B k) : Cxt M X.nox B k :=
  ⟨c.hP, c.hw, c.hK, c.mg, c.hb, c.hN, c.nd, c.calm, c.kind, c.room, c.gu, c.vis, c.loc, c.pl, c.gl, c.cs, fun _ => PassesOwn.never, c.lam, c.fr⟩
end
section
variable [Wtp] [Tbl]
/-! ## sorted(xs, key=len) of a list of tuples -/
def lenK : PyData → Nat
  | .tuple xs => xs.length
  | _ => 0
def isTpD : PyData → Bool
  | .tuple _ => true
  | _ => false
def slnF : PyData → Option PyData
  | .list xs => if xs.all isTpD = true ∧ xs.length ≤ 1000000 then some (.list (xs.mergeSort fun a b => decide (lenK a ≤ lenK b))) else none
  | _ => none
def eSln (co : En → Sto → Rs Wv) : En → Sto → Rs Wv := fun env st => (co env st).bind fun w st1 => look1 w st1 fun d => ret1 (slnF d) st1
@[simp] theorem x_sln (env : En) (st : Sto) (co : En → Sto → Rs Wv) : eSln co env st = (co env st).bind fun w st1 => look1 w st1 fun d => ret1 (slnF d) st1 := rfl
/-! ## list(d.items()) of a dict with tuple keys -/
def pairsD (es : List (PyData × PyData)) : List PyData := es.map fun e => .tuple [e.1, e.2]
def litF : PyData → Option PyData
  | .dict es => if kindT es = true ∧ es.length ≤ 1000000 then some (.list (pairsD es)) else none
  | _ => none
def eLit (co : En → Sto → Rs Wv) : En → Sto → Rs Wv := fun env st => (co env st).bind fun w st1 => look1 w st1 fun d => ret1 (litF d) st1
@[simp] theorem x_lit (env : En) (st : Sto) (co : En → Sto → Rs Wv) : eLit co env st = (co env st).bind fun w st1 => look1 w st1 fun d => ret1 (litF d) st1 := rfl
/-! ## 1 << j, i >> j, i & 1 -/
end
section
variable [Wtp] [Tbl]
/-! ## raise of a class without own __init__ -/
def bmV : List Value := [.type "ValueError", .type "Exception", .type "BaseException", .type "object"]
structure XcOk (M : Md) (x : Str) (C : Addr) : Prop where
  mg : M.mg x = some (.ref C)
  exc : PySem.W.excIn M.K C bmV "ValueError.__new__" = true
  keep : PySem.W.keepIn M.K (.ref C) = true
  sub : PySem.W.subIn M.K (.ref C) (.type "BaseException") = some true
  ty : PySem.W.typeIn M.K (.ref C) = some (.type "type")
def sRaise (x : Str) : En → Sto → SR := fun _ st => .ex ⟨x, []⟩ st
@[simp] theorem x_raise (x : Str) (env : En) (st : Sto) : sRaise x env st = .ex ⟨x, []⟩ st := rfl
section
variable {M : Md} {X : Cx} {B : Tb} {k : Nat} {pos p p2 p3 apos : Pos}
theorem ds_raise (c : Cxt M X B k) (j : Nat) {x m : Str} {jj : Nat} {C : Addr} (hg : B.gs[j]? = some x) (E : XcOk M x C) (hdb : (x == ("__debug__" : Str)) = false := by decide) :
    DS X (.Raise (some (.Call (.Name x p) [.Constant (.str m) jj p2] [] p3)) none pos) (sRaise x) := by
  refine ⟨fun W tk => PS.imp (ps_raise c.calm tk (pmk_own PySem.F.excBase_ValueError (by rw [c.hK]; exact E.exc) (by rw [c.mg]; exact E.mg) (by rw [c.hK]; exact E.keep) (raises_own (by rw [c.hK]; exact E.sub) (by rw [c.hK]; exact E.ty)) (c.gl j x hg) hdb)) fun D σ H ⟨m, env, st, S, R, hp⟩ => ?_⟩
  exact hp (.ref C) none σ H m .refl S ⟨⟨C, by rw [c.mg]; exact E.mg, rfl⟩, .inl ⟨rfl, rfl⟩⟩
/-! ## a def called where an exception is handled -/
structure Cxh (M : Md) (X : Cx) (B : Tb) (k : Nat) (ea : Addr) (x : Str) (C : Addr) (d : Option Addr) : Prop where
  hP : X.prog = M.P
  hw : X.w = M.w
  hK : X.K = M.K
  mg : X.mg = M.mg
  hb : X.base = M.base
  hN : X.N = B.N
  nd : B.N.Nodup
  roomH : L2H.RoomH k X.A
  vis : ∀ i ∈ B.us, ∀ x, B.N[i]? = some x → Vis X.env.scope x
  loc : ∀ i ∈ B.ls, ∀ x, B.N[i]? = some x → Loc X.env.scope x ∧ (X.fn x = true ∨ X.env.scope.names.lookup x = some .local)
  gl : ∀ (j : Nat) x, B.gs[j]? = some x → Gl X x
  cn : M.mg x = some (.ref C)
  pin : ∃ oe, (ea, oe) ∈ X.pn ∧ Zc (.ref C) d oe ∧ ∃ vs, oe.data = .fields vs
section
variable {ea C : Addr} {xn : Str} {d : Option Addr}
theorem deh_var (c : Cxh M X B k ea xn C d) (i : Nat) {x : Str} {pos : Pos} (h : B.N[i]? = some x) (hu : i ∈ B.us) (hd : (x == ("__debug__" : Str)) = false := by decide) (hc : (x == ("__classdict__" : Str)) = false := by decide) : DE X (.Name x pos) (eVar i) := by
  refine ⟨fun W tk => ⟨fun pins s σ H Q I ⟨m, env, st, S, R, hp⟩ => (pe_var (i := i) (by rw [c.hN]; exact h) (c.vis i hu x h) hd hc).run pins s σ H Q I ?_⟩⟩
  unfold eVar at hp
  split at hp
  · rename_i w e
    obtain ⟨v, hv, r⟩ := R.at' i w e
    exact ⟨v, hv, hp v H m .refl S r⟩
  · exact hp.elim
theorem dsh_set (c : Cxh M X B k ea xn C d) (i : Nat) {x : Str} {e : Expr} {ce : En → Sto → Rs Wv} {pos' : Pos} (hi : B.N[i]? = some x) (hl : i ∈ B.ls) (he : DE X e ce) (hs : swapsWith e (some (.Name x pos')) pos.line X.env = pure false := by rfl) : DS X (.Assign [.Name x pos'] e pos) (sSet i ce) := by
  obtain ⟨l1, l2⟩ := c.loc i hl x hi
  refine ⟨fun W tk => PS.imp (ps_set (by rw [c.hN]; exact c.nd) (by rw [c.hN]; exact hi) l1 (he.pe W tk) hs l2) fun D σ H ⟨m, env, st, S, R, hp⟩ => ?_⟩
  exact te_sb (f := fun env w st1 => .nx (env.set i (some w)) st1) S R hp fun w st1 v H1 m1 f1 S1 R1 r1 q => q _ H1 m1 f1 S1 (R1.set i r1)
/-- what the class must say (HandS.ExcIs) and its dict -/
def rIsX (K : Frg) (D a : Addr) (d : Option Addr) : List V → Hp → VK → Prop := fun xs H Q => ∃ (c : V) (cv : Value) (b : Bool), xs = [.ref a, c] ∧ (∀ u, RelV c u → u = cv) ∧ PySem.W.kitOne K (.ref D) cv = some b ∧ (∀ dd, d = some dd → ∃ fs, H dd = some (.xd fs)) ∧ Q (.bl b) H
theorem inst_at {pins : List (Addr × Obj)} {σ : L2.St} {H : Hp} {s : Shared} {oe : Obj} (I : Inv X pins σ H s) (hp : (ea, oe) ∈ X.pn) (hz : Zc (.ref C) d oe) (hf : ∃ vs, oe.data = .fields vs) (hx : ∀ dd, d = some dd → ∃ fs, H dd = some (.xd fs)) : ∃ od, PySem.W.InstAt s.heap ea oe C od := by
  obtain ⟨hget, _⟩ := I.pin (ea, oe) (List.mem_append.mpr (.inl hp))
  obtain ⟨vs, hv⟩ := hf
  have no : PySem.W.notCls oe = true := by unfold PySem.W.notCls; rw [hv] <;> rfl
  cases d with
  | none => exact ⟨none, hget, hz.1, no, by rw [hz.2]; trivial⟩
  | some dd =>
    obtain ⟨fs, ea'⟩ := hx dd rfl
    have hx : ObjOk X.prog X.w H s.heap dd (.xd fs) := I.hok dd _ ea'
    obtain ⟨mA, hns, hr⟩ := hx
    obtain ⟨od, ho, hl⟩ := lookIn_ns hns
    exact ⟨some od, hget, hz.1, no, by rw [hz.2]; exact ho⟩
theorem call_isX {oe : Obj} (T : ExcC X.K C) (hp : (ea, oe) ∈ X.pn) (hz : Zc (.ref C) d oe) (hf : ∃ vs, oe.data = .fields vs) : CallR X (.builtin "isinstance") (rIsX X.K C ea d) := by
  intro pins s σ H xs us Q I r h
  obtain ⟨c, cv, b, rfl, hcv, e, hx, q⟩ := h
  cases r with
  | cons rx rr =>
    cases rr with
    | cons rt rr =>
      cases rr
      cases rx
      have ec := hcv _ rt
      subst ec
      obtain ⟨od, J⟩ := inst_at I hp hz hf hx
      refine PySem.W.kia_one (PySem.W.kitx_exc ?_ T.hg T.hk T.hs T.ha T.hn T.ht T.hm) I.kIn J e (fun z => nomatch z) fun tk => ⟨.bl b, H, I.kept (t' := tk) fun _ _ z => z, rfl, q⟩
      obtain ⟨cd, h1, _⟩ := PySem.W.any_some T.hd
      rw [h1]; rfl
/-- isinstance(e, c) -/
def xHas (ea : Addr) (xn : Str) (d : Option Addr) (w : Wv) : Bool := match w with
  | .x a c p => decide (a = ea ∧ c = xn ∧ p.map (·.1) = d)
  | _ => false
def eIsx (ea : Addr) (xn : Str) (d : Option Addr) (b : Bool) (i : Nat) : En → Sto → Rs Wv := fun env st => match env[i]? with
  | some (some w) => if xHas ea xn d w = true then .ok (.d (.bool b)) st else .no
  | _ => .no
theorem xhas_of {K : Frg} {H : Hp} {m : Mp} {n : Nat} {v : V} {w : Wv} (h : xHas ea xn d w = true) (r : RW K H m n v w) : v = .ref ea ∧ ∃ p : Option (Addr × List (Str × PyData)), w = .x ea xn p ∧ p.map (·.1) = d ∧ ∀ q, p = some q → XdAt K H m n q.1 q.2 := by
  unfold xHas at h
  split at h
  · rename_i a c p
    obtain ⟨rfl, rfl, h3⟩ := of_decide_eq_true h
    exact ⟨r.1, p, rfl, h3, r.2⟩
  · cases h
theorem dict_of {K : Frg} {H : Hp} {m : Mp} {n : Nat} {p : Option (Addr × List (Str × PyData))} (h1 : p.map (·.1) = d) (h2 : ∀ q, p = some q → XdAt K H m n q.1 q.2) : ∀ dd, d = some dd → ∃ fs, H dd = some (.xd fs) := fun dd e => by
  subst h1
  cases p with
  | none => cases e
  | some q =>
    cases e
    obtain ⟨fs, h, _⟩ := h2 q rfl
    exact ⟨fs, h⟩
theorem isx_go (c : Cxh M X B k ea xn C d) {i : Nat} {b : Bool} {cv : Value} {c1 : V} {σ : L2.St} {H : Hp} {Q : VK} {W : WX} (hcv : ∀ u, RelV c1 u → u = cv) (e : PySem.W.kitOne M.K (.ref C) cv = some b) (h : tE X W (eIsx ea xn d b i) σ H Q) :
    tCB (rIsX X.K C ea d) (tCons (tVar i) (tCons (tC c1) tNil)) σ H Q := by
  obtain ⟨m, env, st, S, R, hp⟩ := h
  unfold eIsx at hp
  split at hp
  · rename_i w ew
    split at hp
    · rename_i hx
      obtain ⟨v, hv, r⟩ := R.at' i w ew
      obtain ⟨rfl, p, rfl, h1, h2⟩ := xhas_of hx r
      exact ⟨_, hv, c1, cv, b, rfl, hcv, by rw [c.hK]; exact e, dict_of h1 h2, hp (.bl b) H m .refl S (.bl b)⟩
    · exact hp.elim
  · exact hp.elim
theorem deh_isg (c : Cxh M X B k ea xn C d) (T : ExcC M.K C) (i j jj : Nat) {x y : Str} {C2 : Addr} {b : Bool} {p4 p5 : Pos} (h : B.N[i]? = some x) (hu : i ∈ B.us) (hi : B.gs[jj]? = some ("isinstance" : Str)) (hm : M.mg "isinstance" = none) (hg : B.gs[j]? = some y) (hy : M.mg y = some (.ref C2)) (e : PySem.W.kitOne M.K (.ref C) (.ref C2) = some b)
    (hd : (x == ("__debug__" : Str)) = false := by decide) (hc : (x == ("__classdict__" : Str)) = false := by decide) (hd2 : (y == ("__debug__" : Str)) = false := by decide)
    (he : starEach [.Name x p, .Name y p2] X.env = (false, eval (.Name x p) X.env) :: starEach [.Name y p2] X.env := by rfl) (hpl : (backTo pos (starEach [.Name y p2] X.env)).any (·.1) = false := by rfl) :
    DE X (.Call (.Name "isinstance" p4) [.Name x p, .Name y p2] [] pos) (eIsx ea xn d b i) := by
  obtain ⟨oe, hp, hz, hf⟩ := c.pin
  refine ⟨fun W tk => PE.imp (pe_callB (call_isX (by rw [c.hK]; exact T) hp hz hf) (c.gl jj _ hi) (by rw [c.mg]; exact hm) (by decide +kernel) (pa_cons (pe_var (i := i) (by rw [c.hN]; exact h) (c.vis i hu x h) hd hc) (pa_cons (pe_glob (v := .ref C2) (c.gl j y hg) (by rw [c.mg]; exact hy) rfl hd2) pa_nil)) (by decide) (by decide) he hpl) fun σ H Q => isx_go c (fun u hu => hu) e⟩
theorem deh_isb (c : Cxh M X B k ea xn C d) (T : ExcC M.K C) (i j jj : Nat) {x y : Str} {ty : String} {b : Bool} {p4 p5 : Pos} (h : B.N[i]? = some x) (hu : i ∈ B.us) (hi : B.gs[jj]? = some ("isinstance" : Str)) (hm : M.mg "isinstance" = none) (hg : B.gs[j]? = some y) (hy : M.mg y = none) (hv : bootBuiltins y = some (.type ty)) (e : PySem.W.kitOne M.K (.ref C) (.type ty) = some b)
    (hd : (x == ("__debug__" : Str)) = false := by decide) (hc : (x == ("__classdict__" : Str)) = false := by decide) (hd2 : (y == ("__debug__" : Str)) = false := by decide) (hn : y ≠ "__name__" := by decide)
    (he : starEach [.Name x p, .Name y p2] X.env = (false, eval (.Name x p) X.env) :: starEach [.Name y p2] X.env := by rfl) (hpl : (backTo pos (starEach [.Name y p2] X.env)).any (·.1) = false := by rfl) :
    DE X (.Call (.Name "isinstance" p4) [.Name x p, .Name y p2] [] pos) (eIsx ea xn d b i) := by
  obtain ⟨oe, hp, hz, hf⟩ := c.pin
  refine ⟨fun W tk => PE.imp (pe_callB (call_isX (by rw [c.hK]; exact T) hp hz hf) (c.gl jj _ hi) (by rw [c.mg]; exact hm) (by decide +kernel) (pa_cons (pe_var (i := i) (by rw [c.hN]; exact h) (c.vis i hu x h) hd hc) (pa_cons (pe_bltn (v := .ty ty) (c.gl j y hg) (by rw [c.mg]; exact hy) hv rfl hn hd2) pa_nil)) (by decide) (by decide) he hpl) fun σ H Q => isx_go c (fun u hu => hu) e⟩
/-- e.f -/
def eXf (ea : Addr) (xn : Str) (d : Option Addr) (f : Str) (i : Nat) : En → Sto → Rs Wv := fun env st => match env[i]? with
  | some (some (.x a c (some (dd, es)))) => if a = ea ∧ c = xn ∧ some dd = d then match es.lookup f with
    | some y => .ok (.d y) st
    | none => .no
    else .no
  | _ => .no
theorem xd_get {K : Frg} {H : Hp} {Z : Addr → Prop} {f : Str} {y : PyData} : ∀ {fs : List (Str × V)} {es : List (Str × PyData)}, fs.map (·.1) = es.map (·.1) → RpA K H Z (fs.map (·.2)) (es.map (·.2)) → es.lookup f = some y → ∃ v, fs.lookup f = some v ∧ Rp K H Z v y
  | [], [], _, _, e => by cases e
  | [], _ :: _, h, _, _ => by cases h
  | _ :: _, [], h, _, _ => by cases h
  | (a, v) :: fs, (a2, d2) :: es, h, r, e => by
    simp only [List.map_cons, List.cons.injEq] at h
    obtain ⟨rfl, h⟩ := h
    cases r with
    | cons r1 r2 =>
      rw [List.lookup_cons] at e ⊢
      split at e
      · cases e
        exact ⟨v, rfl, r1⟩
      · exact xd_get h r2 e
theorem deh_xf (c : Cxh M X B k ea xn C d) (T : XfC M.K C) (i : Nat) {x f : Str} (hno : PySem.W.findIn M.K (.ref C) f = some none) (h : B.N[i]? = some x) (hu : i ∈ B.us) (hd : (x == ("__debug__" : Str)) = false := by decide) (hc : (x == ("__classdict__" : Str)) = false := by decide)
    (hb : attributeBase (.Name x p) f X.env (eval (.Name x p) X.env) = eval (.Name x p) X.env := by rfl) : DE X (.Attribute (.Name x p) f pos) (eXf ea xn d f i) := by
  obtain ⟨oe, hp, hz, ovs, hd3⟩ := c.pin
  refine ⟨fun W tk => ⟨fun pins s σ H Q I ⟨m, env, st, S, R, hq⟩ => ?_⟩⟩
  unfold eXf at hq
  split at hq
  · rename_i a cc dd es ew
    split at hq
    · rename_i hcond
      obtain ⟨rfl, rfl, hdd⟩ := hcond
      subst hdd
      split at hq
      · rename_i y ey
        obtain ⟨v, hv, r⟩ := R.at' i _ ew
        obtain ⟨rv, rx⟩ := r
        subst rv
        obtain ⟨fs, hxd, hn, hra, hoff⟩ := rx _ rfl
        obtain ⟨vf, hl, rf⟩ := xd_get hn hra ey
        refine attr_of hb (thn ((pe_var (i := i) (by rw [c.hN]; exact h) (c.vis i hu x h) hd hc).run pins s σ H (fun v1 H1 => v1 = .ref a ∧ H1 = H) I ⟨_, hv, rfl, rfl⟩) fun u s1 hh => ?_)
        obtain ⟨v1, H1, I1, r1, rfl, rfl⟩ := hh
        obtain rfl : u = Value.ref a := r1
        obtain ⟨ha, _⟩ := I1.pin (a, oe) (List.mem_append.mpr (.inl hp))
        have hx : ObjOk X.prog X.w H1 s1.heap dd (.xd fs) := I1.hok dd _ hxd
        obtain ⟨mA, hns, hr⟩ := hx
        obtain ⟨od, ho, hlk⟩ := lookIn_ns hns
        obtain ⟨u2, hu2, ru⟩ := RelO.some_of (v := vf) (o := mA f) (by rw [← hl]; exact hr f)
        have J : PySem.W.InstAt s1.heap a oe C (some od) := ⟨ha, hz.1, by unfold PySem.W.notCls; rw [hd3] <;> rfl, by rw [hz.2]; exact ho⟩
        have TT : XfC X.K C := by rw [c.hK]; exact T
        have hno' : PySem.W.findIn X.K (.ref C) f = some none := by rw [c.hK]; exact hno
        exact HandSPX.exc_get I1.kIn J TT.ga TT.gg TT.exC (PySem.W.findObj_own TT.hdC hno' rfl (by rw [hlk, hu2])) (handed_of ru) ⟨vf, H1, I1.tok _, ru, hq vf H1 m .refl S rf⟩
      · exact hq.elim
    · exact hq.elim
  · exact hq.elim
end
end
end
section
variable [Wtp] [Tbl]
section
variable {M : Md} {X : Cx} {B : Tb} {k : Nat} {pos p p2 p3 apos : Pos} {ea C : Addr} {xn : Str} {d : Option Addr}
/-- isinstance(e, (c, ..)) -/
def rIsXT (K : Frg) (D a : Addr) (d : Option Addr) (tys : List String) : List V → Hp → VK → Prop := fun xs H Q => ∃ (tp : Addr) (b : Bool), xs = [.ref a, .ref tp] ∧ H tp = some (.tup (tys.map V.ty)) ∧ PySem.W.kitAny K (.ref D) (tys.map Value.type) = some b ∧ (∀ dd, d = some dd → ∃ fs, H dd = some (.xd fs)) ∧ Q (.bl b) H
theorem vals_tys : ∀ {tys : List String} {us : List Value}, Vals (tys.map V.ty) us → us = tys.map Value.type
  | [], _, h => by cases h; rfl
  | t :: ts, _, h => by
    rw [List.map_cons] at h
    cases h with
    | cons h1 h2 => rw [vals_tys h2, show _ = Value.type t from h1]; rfl
theorem call_isXT {oe : Obj} {tys : List String} (T : ExcC X.K C) (hp : (ea, oe) ∈ X.pn) (hz : Zc (.ref C) d oe) (hf : ∃ vs, oe.data = .fields vs) : CallR X (.builtin "isinstance") (rIsXT X.K C ea d tys) := by
  intro pins s σ H xs us Q I r h
  obtain ⟨tp, b, rfl, ht, e, hx, q⟩ := h
  cases r with
  | cons rx rr =>
    cases rr with
    | cons rt rr =>
      cases rr
      cases rx
      cases rt
      obtain ⟨od, J⟩ := inst_at I hp hz hf hx
      obtain ⟨its, rv, ⟨⟨cls, dd, data, sl⟩, ho, hc, n, hd⟩, _⟩ := I.tuple (.inl (.inl ht))
      simp only at hc hd
      subst hc hd
      have ei := vals_tys rv
      refine PySem.W.kia_tup (its := its) (PySem.W.kitx_exc ?_ T.hg T.hk T.hs T.ha T.hn T.ht T.hm) I.kIn J ho (by rw [ei]; exact e) (fun z => nomatch z) fun tk => ⟨.bl b, H, I.kept (t' := tk) fun _ _ z => z, rfl, q⟩
      obtain ⟨cd, h1, _⟩ := PySem.W.any_some T.hd
      rw [h1]; rfl
theorem deh_ist (c : Cxh M X B k ea xn C d) (T : ExcC M.K C) (i jj : Nat) {x : Str} {t1 t2 t3 t4 : Str} {y1 y2 y3 y4 : String} {b : Bool} {j1 j2 j3 j4 kt : Nat} {p4 p5 p6 p7 p8 p9 : Pos} (h : B.N[i]? = some x) (hu : i ∈ B.us) (hi : B.gs[jj]? = some ("isinstance" : Str)) (hm : M.mg "isinstance" = none)
    (g1 : B.gs[j1]? = some t1) (g2 : B.gs[j2]? = some t2) (g3 : B.gs[j3]? = some t3) (g4 : B.gs[j4]? = some t4) (m1 : M.mg t1 = none) (m2 : M.mg t2 = none) (m3 : M.mg t3 = none) (m4 : M.mg t4 = none)
    (b1 : bootBuiltins t1 = some (.type y1)) (b2 : bootBuiltins t2 = some (.type y2)) (b3 : bootBuiltins t3 = some (.type y3)) (b4 : bootBuiltins t4 = some (.type y4)) (n1 : t1 ≠ "__name__" ∧ (t1 == ("__debug__" : Str)) = false) (n2 : t2 ≠ "__name__" ∧ (t2 == ("__debug__" : Str)) = false) (n3 : t3 ≠ "__name__" ∧ (t3 == ("__debug__" : Str)) = false) (n4 : t4 ≠ "__name__" ∧ (t4 == ("__debug__" : Str)) = false)
    (e : PySem.W.kitAny M.K (.ref C) ([y1, y2, y3, y4].map Value.type) = some b)
    (hd : (x == ("__debug__" : Str)) = false := by decide) (hc : (x == ("__classdict__" : Str)) = false := by decide)
    (he : starEach [.Name x p, .Tuple [.Name t1 p5, .Name t2 p6, .Name t3 p7, .Name t4 p8] kt p9] X.env = (false, eval (.Name x p) X.env) :: starEach [.Tuple [.Name t1 p5, .Name t2 p6, .Name t3 p7, .Name t4 p8] kt p9] X.env := by rfl) (hpl : (backTo pos (starEach [.Tuple [.Name t1 p5, .Name t2 p6, .Name t3 p7, .Name t4 p8] kt p9] X.env)).any (·.1) = false := by rfl) :
    DE X (.Call (.Name "isinstance" p4) [.Name x p, .Tuple [.Name t1 p5, .Name t2 p6, .Name t3 p7, .Name t4 p8] kt p9] [] pos) (eIsx ea xn d b i) := by
  obtain ⟨oe, hp, hz, hf⟩ := c.pin
  have P : ∀ {t : Str} {y : String} {j : Nat} {q : Pos}, B.gs[j]? = some t → M.mg t = none → bootBuiltins t = some (.type y) → t ≠ "__name__" ∧ (t == ("__debug__" : Str)) = false → PE X (.Name t q) (tC (.ty y)) := fun {t y j q} g m b n => pe_bltn (c.gl j t g) (by rw [c.mg]; exact m) b rfl n.1 n.2
  refine ⟨fun W tk => PE.imp (pe_callB (call_isXT (tys := [y1, y2, y3, y4]) (by rw [c.hK]; exact T) hp hz hf) (c.gl jj _ hi) (by rw [c.mg]; exact hm) (by decide +kernel) (pa_cons (pe_var (i := i) (by rw [c.hN]; exact h) (c.vis i hu x h) hd hc) (pa_cons (pe_tup (pa_cons (P g1 m1 b1 n1) (pa_cons (P g2 m2 b2 n2) (pa_cons (P g3 m3 b3 n3) (pa_cons (P g4 m4 b4 n4) pa_nil))))) pa_nil)) (by decide) (by decide) he hpl) fun σ H Q ⟨m, env, st, S, R, hp⟩ => ?_⟩
  unfold eIsx at hp
  split at hp
  · rename_i w ew
    split at hp
    · rename_i hx
      obtain ⟨v, hv, r⟩ := R.at' i w ew
      obtain ⟨rfl, pp, rfl, h1, h2⟩ := xhas_of hx r
      refine ⟨_, hv, ⟨by show 4 ≤ sizeLine; rw [sizeLine_eq]; omega, fun q hn => ?_⟩⟩
      have g := grow_upd (o := .tup ([y1, y2, y3, y4].map V.ty)) hn
      refine ⟨q, b, rfl, upd_same, by rw [c.hK]; exact e, fun dd ed => ?_, hp (.bl b) _ m (.same g) (S.grow g) (.bl b)⟩
      obtain ⟨fs, hfs⟩ := dict_of h1 h2 dd ed
      exact ⟨fs, g _ _ hfs⟩
    · exact hp.elim
  · exact hp.elim
/-! ## l.index(b) of bools -/
def posB (b : Bool) : List Bool → Option Nat
  | [] => none
  | x :: r => if x = b then some 0 else (posB b r).map (· + 1)
def idxD : PyData → List PyData → Option PyData
  | .list xs, [.bool b] => match boolsOf xs with
    | some bs => (posB b bs).map fun j => .int (j : Nat)
    | none => none
  | _, _ => none
theorem posB_at {b : Bool} : ∀ {bs : List Bool} {j : Nat}, posB b bs = some j → bs[j]? = some b ∧ ∀ m z, m < j → bs[m]? = some z → z ≠ b
  | [], _, h => by cases h
  | x :: r, j, h => by
    unfold posB at h
    split at h
    · cases h
      exact ⟨by simp [*], fun m z hm => absurd hm (Nat.not_lt_zero m)⟩
    · rename_i hx
      cases e : posB b r with
      | none => rw [e] at h; cases h
      | some i =>
        rw [e] at h
        cases h
        obtain ⟨h1, h2⟩ := posB_at e
        refine ⟨h1, fun m z hm hz => ?_⟩
        cases m with
        | zero => simp at hz; subst hz; exact hx
        | succ m => exact h2 m z (Nat.lt_of_succ_lt_succ (show m + 1 < i + 1 from hm)) (by simpa using hz)
theorem bools_rp {K : Frg} {H : Hp} {Z : Addr → Prop} : ∀ {xs : List PyData} {vs : List V} {bs : List Bool}, boolsOf xs = some bs → RpA K H Z vs xs → vs = bs.map V.bl := by
  intro xs
  induction xs with
  | nil => intro vs bs e r; cases e; cases r; rfl
  | cons x xs ih =>
    intro vs bs e r
    cases r with
    | cons r1 r2 =>
      cases x with
      | bool b =>
        unfold boolsOf at e
        cases q : boolsOf xs with
        | none => rw [q] at e; cases e
        | some cs =>
          rw [q] at e
          cases e
          cases r1
          rw [ih q r2]; rfl
      | _ => cases e
theorem m_index : MtR X "list.index" (rMd X.K idxD) := by
  intro pins s σ H x xs v us Q I rx rxs ⟨Z, d, ds, r, hz, hd, hds, hf, ho⟩
  unfold idxD at hf
  split at hf
  · rename_i ys b
    split at hf
    · rename_i bs hbs
      cases e : posB b bs with
      | none => rw [e] at hf; cases hf
      | some j =>
        rw [e] at hf
        cases hf
        obtain ⟨a, vs, rfl, h1, h2⟩ := hd.lst
        obtain ⟨z, rfl, h'⟩ := rts1 hds
        have ez := h'.bl
        subst ez
        have ev := bools_rp hbs h2
        subst ev
        obtain ⟨p1, p2⟩ := posB_at e
        refine mt_index pins s σ H _ _ v us Q I rx rxs ⟨a, bs.map V.bl, .bl b, j, .bl b, rfl, rfl, h1.sq, rfl, by rw [List.all_map]; simp [Function.comp_def, flatV], by rw [List.getElem?_map, p1]; rfl, by cases b <;> rfl, fun m z' hm hz' => ?_, rout_here ho (.int _)⟩
        rw [List.getElem?_map] at hz'
        cases q : bs[m]? with
        | none => rw [q] at hz'; cases hz'
        | some zb =>
          rw [q] at hz'
          cases hz'
          have := p2 m zb hm q
          cases zb <;> cases b <;> first | rfl | exact absurd rfl this
    · cases hf
  · cases hf
theorem deh_index {o e : Expr} {es : List Expr} {co : En → Sto → Rs Wv} {cs : En → Sto → Rs (List Wv)} (ho : DE X o co) (ha : DA X (e :: es) cs)
    (hbase : attributeBase o "index" X.env (eval o X.env) = eval o X.env := by rfl)
    (hfew : ((backTo pos (starEach (e :: es) X.env)).all (fun x => !x.1) && (backToKw pos (keywordEach [] X.env)).all (fun x => x.1.isSome)
      && decide ((e :: es).length + ([] : List Keyword).length + (if ([] : List Keyword).isEmpty then 0 else 1) < 30)) = true := by rfl)
    (hline : (apos.endLine == pos.line) = true := by rfl) (hs : starEach (e :: es) X.env = (false, eval e X.env) :: starEach es X.env := by rfl) (hplain : (backTo pos (starEach es X.env)).any (·.1) = false := by rfl) :
    DE X (.Call (.Attribute o "index" apos) (e :: es) [] pos) (eMd idxD co cs) :=
  ⟨fun W tk => PE.imp (pe_bm PySem.F.plainAttrs_list PySem.F.slot_list_index PySem.F.type_list_index m_index (ho.pe W tk) (ha.pa W tk) hbase hfew hline hs hplain) fun σ H Q => te_md idxD⟩
theorem deh_count (hr : L2H.RoomH k X.A) {o e : Expr} {es : List Expr} {co : En → Sto → Rs Wv} {cs : En → Sto → Rs (List Wv)} (ho : DE X o co) (ha : DA X (e :: es) cs)
    (hbase : attributeBase o "count" X.env (eval o X.env) = eval o X.env := by rfl)
    (hfew : ((backTo pos (starEach (e :: es) X.env)).all (fun x => !x.1) && (backToKw pos (keywordEach [] X.env)).all (fun x => x.1.isSome)
      && decide ((e :: es).length + ([] : List Keyword).length + (if ([] : List Keyword).isEmpty then 0 else 1) < 30)) = true := by rfl)
    (hline : (apos.endLine == pos.line) = true := by rfl) (hs : starEach (e :: es) X.env = (false, eval e X.env) :: starEach es X.env := by rfl) (hplain : (backTo pos (starEach es X.env)).any (·.1) = false := by rfl) :
    DE X (.Call (.Attribute o "count" apos) (e :: es) [] pos) (eMd cntD co cs) :=
  ⟨fun W tk => PE.imp (pe_bm PySem.F.plainAttrs_list PySem.F.slot_list_count PySem.F.type_list_count (m_count hr) (ho.pe W tk) (ha.pa W tk) hbase hfew hline hs hplain) fun σ H Q => te_md cntD⟩
end
end
section
variable [Wtp] [Tbl]
/-! ## the call of a def on a handled exception -/
theorem fnx_of {M : Md} {B : Tb} {k : Nat} {f : Addr} {name qual : Str} {params : Arguments} {body : List Stmt} {scope : Scope} {dV kV doc pm cdv ct oc : Value} {an od : Option Addr} {osl : Array (Option Value)} {a0 : Str} {cb : En → Sto → SR} {nN : Nat} {ea C : Addr} {xn : Str} {d : Option Addr}
    (hf : M.K.lookup f = some ⟨oc, od, .func (PySem.W.fnOf name qual params body scope dV kV doc pm an cdv ct), osl⟩) (hcode : PySem.W.codeIn M.K cdv qual = true) (SC : FnScope B.N [a0] scope) (hT : fnT B scope = true) (hnN : B.N.length = nN)
    (hb : ∀ X : Cx, Cxh M X B k ea xn C d → DB X body cb) (hcn : M.mg xn = some (.ref C))
    {A : Around} {outer : List Env} {s : Shared} {H : Hp} {args : Args} {us : List Value} {m : Mp} {st : Sto} {oe : Obj} {p : Option (Addr × List (Str × PyData))} {Q : VK}
    (room : L2H.RoomH (k + 1) A) (hpin : L2H.PinOk outer H s (ea, oe)) (hz : Zc (.ref C) d oe) (hfl : ∃ vs, oe.data = .fields vs) (e0 : Env0 M.P M.w M.K M.mg M.base A outer s H) (bound : BindsTo s (PySem.W.fnOf name qual params body scope dV kV doc pm an cdv ct) args ([a0].zip us)) (rv : Vals [.ref ea] us) (S : Sim M.K H m st)
    (hx : ∀ q, p = some q → XdAt M.K H m st.length q.1 q.2)
    (hp : (mkF 1 nN cb [.x ea xn p] st).post (fun w st' => ∀ v H' m', Fol m st.length H m' st'.length H' → Sim M.K H' m' st' → RW M.K H' m' st'.length v w → Q v H') (fun _ _ => False)) :
    codeAny (model M.P M.w) A (.call (.ref f) args) (CR (L2.CX M.P M.w) outer M.P M.w H s Q fun _ _ _ => False) s := by
  have inK : M.K.In s.heap := e0.mod.kin.keeps fun b o e => (e0.bs b o e).1
  have noLim : s.heap.NoLimit := e0.mod.nolimit.keeps fun b o e => (e0.bs b o e).1
  have kinds : ∀ y ∈ [a0].zip us, scope.names.lookup y.1 = some .local ∨ (scope.names.lookup y.1 = some .cell ∧ ((cellsFrom (s.heap.objs.size + 1) scope.names []).lookup y.1).isSome = true) := by
    rintro ⟨y, v⟩ hy
    have hy' := SC.par y (List.of_mem_zip hy).1
    exact hy'.imp id fun q => ⟨q, PySem.W.cellsFrom_some _ _ _ (.inl q)⟩
  refine codeAny_call_function room.depth (inK _ _ hf) rfl SC.co SC.gen rfl (PySem.W.codeRec_of inK hcode) (bound _ _ _ _ (wpAny_newFunctionEnv_cells SC.kind kinds fun env henv s1 x => ?_))
  subst henv
  refine ⟨noLim.keeps x.toInCall.keep, codeAny_func ?_⟩
  generalize hX : L2H.cxH (L2.CX M.P M.w) M.P M.w M.K M.mg M.base B.N qual scope f cdv A outer s H (fun _ _ _ => False) (ea, oe) = X
  have hI : Inv X [] (start B.N [.ref ea]) H s1 := by rw [← hX]; exact L2H.inv_startH SC hpin e0 rfl rv x
  unfold fnT at hT
  simp only [Bool.and_eq_true, List.all_eq_true, decide_eq_true_eq] at hT
  obtain ⟨t1, t2, t3, t4, t5, t6⟩ := hT
  have hC : Cxh M X B k ea xn C d := by
    subst hX
    refine ⟨rfl, rfl, rfl, rfl, rfl, rfl, SC.nd, room.deeper _, fun i hi x hx => ?_, fun i hi x hx => ?_, fun j x hx => kdG_gl (t4 x (List.mem_of_getElem? hx)), hcn, oe, List.mem_cons_self, hz, hfl⟩
    · have q := t1 i hi
      rw [hx] at q
      exact kdV_vis q
    · have q := t2 i hi
      rw [hx] at q
      exact ⟨kdL_loc q, .inl rfl⟩
  have tk : Takes X (fun c d _ H' => False) := by subst hX; exact takes_of rfl rfl rfl rfl
  have hR : EnvR X.K H m st.length ([some (.x ea xn p)] ++ List.replicate (nN - 1) none) (start B.N [.ref ea]) := by
    refine ⟨?_, fun i w hw => ?_⟩
    · unfold L2.start; simp [hnN]
    · cases i with
      | zero =>
        simp at hw
        subst hw
        refine ⟨.ref ea, by unfold L2.start; simp, rfl, fun q hq => by subst hX; exact hx q hq⟩
      | succ i =>
        rw [List.getElem?_append_right (by simp)] at hw
        have := List.mem_of_getElem? hw
        simp at this
  have hK : X.K = M.K := hC.hK
  have run := ((hb X hC).pss _ tk).run [] s1 (start B.N [.ref ea]) H { nx := fun _ H' => Q .non H', rt := fun v H' => ∃ as, ∀ os, Q v (fzH H' as os) } hI
  unfold mkF at hp
  rw [if_pos (show [Wv.x ea xn p].length = 1 from rfl)] at hp
  have hp2 := SR.post_end hp
  have fin : ∀ {σ' : L2.St} {H' : Hp} {v : V} {u : Value} {s' : Shared}, Inv X [] σ' H' s' → RelV v u → Q v H' → CE outer M.P M.w H s Q u s' := fun {σ' H' v u s'} J rv q => by
    subst hX
    exact ⟨v, H', J.os, J.bare, J.base, J.hok, rv, q⟩
  have run2 := run ⟨m, _, st, by rw [hK]; exact S, hR, SR.post_mono hp2 (fun env st' q σ' H' m' f S' _ => ?_) (fun p st' q v H' m' f S' r => ?_) fun e st' q c d σ' H' m' f S' r => q⟩
  · subst hX
    refine wpAny_mono run2 (fun fl s' hs => ?_) fun e s' hs => hs
    cases fl with
    | ret u => obtain ⟨v, σ', H', J, rv, as, q⟩ := hs; obtain ⟨os, J2⟩ := freezeAll J as; exact fin J2 rv (q os)
    | next => obtain ⟨σ', H', J, q⟩ := hs; exact fin (v := V.non) (u := Value.none) J rfl q
    | brk => obtain ⟨_, _, _, q⟩ := hs; exact q.elim
    | cont => obtain ⟨_, _, _, q⟩ := hs; exact q.elim
  · have tl : (st'.take st.length).length = st.length := by rw [List.length_take]; have := f.le; omega
    rw [hK] at S'
    exact q .non H' m' (by rw [tl]; exact f.back) (S'.take f.le) .non
  · have tl : (st'.take st.length).length = st.length := by rw [List.length_take]; have := f.le; omega
    rw [hK] at S' r
    have plain : Q v H' → ∃ as, ∀ os, Q v (fzH H' as os) := fun z => ⟨[], fun os => by rw [fz_nil]; exact z⟩
    unfold endR at q
    split at q
    · exact plain (q _ H' m' (by rw [tl]; exact f.back) (S'.take f.le) (by rw [tl]; exact Rp.mv r (.le f.le)))
    · exact q.elim
    · rename_i i
      split at q
      · rename_i hi
        exact plain (q _ H' m' (by rw [tl]; exact f.back) (S'.take f.le) (by rw [tl]; exact ⟨hi, r.2⟩))
      · rename_i hi
        split at q
        · rename_i o eo
          have tl2 : (st'.take st.length ++ [o]).length = st.length + 1 := by simp [tl]
          exact plain (q _ H' (mup m' st.length (m'.ix i)) (by rw [tl2]; exact f.keep1 (by omega) r.1) (S'.keep1 (by omega) eo) (by rw [tl2]; exact ⟨Nat.lt_succ_self _, by rw [mup_new]; exact r.2⟩))
        · exact q.elim
    · rename_i w
      split at q
      · rename_i x ex
        have hA : AsNew m' st.length st'.length (newA st.length m' w) := newA_new (fun i e => by subst e; exact r.1)
        exact ⟨newA st.length m' w, fun os => q _ _ m' (by rw [tl]; exact (f.fz hA).back) (S'.fz f.le hA) (by rw [tl]; exact rw_frz S' f.le r ex (newA_all ex))⟩
      · exact q.elim
    · rename_i ws
      split at q
      · rename_i xs ex
        obtain ⟨a, us', rfl, h1, h2⟩ := r
        have hA : AsNew m' st.length st'.length (ws.flatMap (newA st.length m')) := newAs_new h2
        exact ⟨ws.flatMap (newA st.length m'), fun os => q _ _ m' (by rw [tl]; exact (f.fz hA).back) (S'.fz f.le hA) (by rw [tl]; exact .tup (.inl (fz_same h1 (fun _ z => nomatch z) (fun _ z => nomatch z))) (rws_frz S' f.le h2 ex fun a ha => by
          obtain ⟨w, hw, hb⟩ := List.mem_flatMap.mp ha
          obtain ⟨x, ex2⟩ := frzA_mem ex w hw
          exact List.mem_flatMap.mpr ⟨w, hw, newA_all ex2 a hb⟩))⟩
      · exact q.elim
end
section
variable [Wtp] [Tbl]
open LamX
/-! ## the def on handled exceptions -/
structure FlFn (M : Md) (fl : Str) (k nN : Nat) (cb : Addr → Str → Option Addr → En → Sto → SR) (ok : Str → Addr → Prop) : Prop where
  at' : ∃ (f : Addr) (fd : FuncData) (a0 : Str), M.mg fl = some (.ref f) ∧ PySem.W.keepIn M.K (.ref f) = true ∧ Binds M.K fd [a0] [] ∧
    ∀ (ea C : Addr) (xn : Str) (d : Option Addr), M.mg xn = some (.ref C) → ok xn C → ∀ (A : Around) (outer : List Env) (s : Shared) (H : Hp) (args : Args) (us : List Value) (m : Mp) (st : Sto) (oe : Obj) (p : Option (Addr × List (Str × PyData))) (Q : VK),
      L2H.RoomH (k + 1) A → L2H.PinOk outer H s (ea, oe) → Zc (.ref C) d oe → (∃ vs, oe.data = .fields vs) → Env0 M.P M.w M.K M.mg M.base A outer s H → BindsTo s fd args ([a0].zip us) → Vals [.ref ea] us → Sim M.K H m st → (∀ q, p = some q → XdAt M.K H m st.length q.1 q.2) →
      (mkF 1 nN (cb ea xn d) [.x ea xn p] st).post (fun w st' => ∀ v H' m', Fol m st.length H m' st'.length H' → Sim M.K H' m' st' → RW M.K H' m' st'.length v w → Q v H') (fun _ _ => False) →
      codeAny (model M.P M.w) A (.call (.ref f) args) (CR (L2.CX M.P M.w) outer M.P M.w H s Q fun _ _ _ => False) s
theorem flfn_of {M : Md} {fl a0 : Str} {sf : Stmt} {B : Tb} {k nN : Nat} {cb : Addr → Str → Option Addr → En → Sto → SR} {ok : Str → Addr → Prop} (T : TopFn M fl sf [a0]) (SC : FnScope B.N [a0] (defScope sf)) (hT : fnT B (defScope sf) = true) (hnN : B.N.length = nN)
    (hb : ∀ (ea C : Addr) (xn : Str) (d : Option Addr), ok xn C → ∀ X : Cx, Cxh M X B k ea xn C d → DB X (defBody sf) (cb ea xn d)) : FlFn M fl k nN cb ok := by
  obtain ⟨f, od, an, sl, oc, kV, dc, pm, cd, ct, h1, h2, h3, h4, h5⟩ := T.at'
  exact ⟨f, _, a0, h1, h4, h5, fun ea C xn d hcn hok A outer s H args us m st oe p Q room pin hz hf e0 bd rv S hx hp => fnx_of h2 h3 SC hT hnN (fun X c => hb ea C xn d hok X c) hcn room pin hz hf e0 bd rv S hx hp⟩
/-- what the suite asks -/
def flP (M : Md) (nN : Nat) (cb : Addr → Str → Option Addr → En → Sto → SR) (ok : Str → Addr → Prop) : Value → Option Addr → Addr → Hp → VK → Prop := fun cls d ea H Q =>
  ∃ (m : Mp) (st : Sto) (xn : Str) (C : Addr) (p : Option (Addr × List (Str × PyData))), cls = .ref C ∧ M.mg xn = some (.ref C) ∧ ok xn C ∧ Sim M.K H m st ∧ (∀ q, p = some q → XdAt M.K H m st.length q.1 q.2) ∧
    (mkF 1 nN (cb ea xn d) [.x ea xn p] st).post (fun w st' => ∀ v H' m', Fol m st.length H m' st'.length H' → Sim M.K H' m' st' → RW M.K H' m' st'.length v w → Q v H') (fun _ _ => False)
section
variable {P : Program} {w : World} {K : Frg} {mg : Str → Option Value} {base : Heap} {X : Cx} {fl n : Str} {k nN i : Nat} {cb : Addr → Str → Option Addr → En → Sto → SR} {ok : Str → Addr → Prop}
theorem pe_flags {M : Md} {a : Addr} {oe : Obj} {cls : Value} {d : Option Addr} {pn : List (Addr × Obj)} {q1 q2 pos : Pos} (e1 : X.prog = M.P) (e2 : X.w = M.w) (e3 : X.K = M.K) (e4 : X.mg = M.mg) (e5 : X.base = M.base) (F : FlFn M fl k nN cb ok) (hr : L2H.RoomH (k + 1) X.A) (hg : Gl X fl) (hz : Zc cls d oe) (hf : ∃ vs, oe.data = .fields vs)
    (hi : X.N[i]? = some n) (hv : Vis X.env.scope n) (hd : (n == ("__debug__" : Str)) = false) (hcd : (n == ("__classdict__" : Str)) = false) (hdb : (fl == ("__debug__" : Str)) = false)
    (he : starEach [.Name n q2] X.env = (false, eval (.Name n q2) X.env) :: starEach [] X.env := by rfl) (hpl : (backTo pos (starEach [] X.env)).any (·.1) = false := by rfl) :
    PE (X.suite a ((a, oe) :: pn)) (.Call (.Name fl q1) [.Name n q2] [] pos) (fun σ H Q => (σ.length = X.N.length → σ[i]? = some (some (.ref a))) ∧ flP M nN cb ok cls d a H Q) := by
  obtain ⟨P, w, K, mg, base⟩ := M
  obtain ⟨rfl, rfl, rfl, rfl, rfl⟩ : X.prog = P ∧ X.w = w ∧ X.K = K ∧ X.mg = mg ∧ X.base = base := ⟨e1, e2, e3, e4, e5⟩
  refine ⟨fun pins s σ H Q I h => ?_⟩
  obtain ⟨hs, m, st, xn, C, p, hcls, hcn, hok, S, hx, hp⟩ := h
  subst hcls
  obtain ⟨f, fd, a0, g1, g2, g3, run⟩ := F.at'
  refine wpAny_Call_Name_kw (ld_glob I hg g1 ?_ hdb)
  have hsl := hs I.len
  refine PySem.W.callWith_K (h₀ := X.base) I.ok.mod.kin g2 (thn ((pa_cons (pe_var (X := X.suite a ((a, oe) :: pn)) (pos := q2) (i := i) hi hv hd hcd) pa_nil he).run pos pins s σ H (fun vs H1 => vs = [.ref a] ∧ H1 = H) I ⟨.ref a, hsl, rfl, rfl⟩) fun us s1 hh => ?_) he hpl
  obtain ⟨vs, H1, I1, rv, rfl, rfl⟩ := hh
  refine ⟨I1.kIn, ?_⟩
  have hl : us.length = 1 := by rw [← rv.length]; rfl
  have bd := g3 s1 us I1.kIn (by rw [List.append_nil]; exact hl)
  rw [List.append_nil] at bd
  have P1 := I1.pin (a, oe) (List.mem_append_left _ List.mem_cons_self)
  have hpin : L2H.PinOk X.stack H1 s1 (a, oe) := ⟨P1.1, P1.2.1, fun hm => (List.mem_cons.mp (I1.stkSub a hm)).elim P1.2.2.1 P1.2.2.2.1, P1.2.2.2.2⟩
  refine wpAny_call (codeAny_mono (run a C xn d hcn hok (X.A.mark (some (.ref a))) X.stack s1 H1 ⟨us, []⟩ us m st oe p Q ⟨hr.dp, hr.un⟩ hpin hz hf I1.env0 bd rv S hx hp) fun r s2 hq => ?_)
  cases r with
  | error e => obtain ⟨_, _, _, _, _, _, _, _, _, _, _, _, z⟩ := hq; exact z.elim
  | ok fw =>
    cases fw with
    | ret u => exact I1.after hq
    | next => exact False.elim hq
    | brk => exact False.elim hq
    | cont => exact False.elim hq
end
end
section
variable [Wtp] [Tbl]
open LamX
/-! ## a lambda handed to the def that asks it -/
section
variable {K : Frg} {H H' : Hp} {m : Mp} {n : Nat}
theorem Fol.ext (h : ExtN H H') : Fol m n H m n H' :=
  ⟨fun a xs q => h a _ q (fun _ z => nomatch z), fun a o u q => h a _ q (fun _ z => nomatch z), fun a o nt q _ => h a o q nt, fun _ _ => rfl, fun i a b => absurd b (by omega), Nat.le_refl _, fun a ⟨o, e, nt⟩ => ⟨o, h a o e nt, nt⟩, fun _ _ => Iff.rfl⟩
theorem Sim.ext {st : Sto} (S : Sim K H m st) (h : ExtN H H') (T : LamX.Tabs Tbl.T H') : Sim K H' m st := by
  have f : Fol m st.length H m st.length H' := .ext h
  refine ⟨fun i o e => ?_, S.inj, fun a z => f.dom a (S.ff a z), S.fi, T⟩
  have q := S.ob i o e
  cases o with
  | lst xs => obtain ⟨vs, h1, h2⟩ := q; exact ⟨vs, h _ _ h1 nt_lst, h2.mv f.kp⟩
  | dct kvs => obtain ⟨vs, h1, h2⟩ := q; exact ⟨vs, h _ _ h1 nt_dK, RpK.kp f.kp _ _ h2⟩
  | dtt kvs => obtain ⟨vs, h1, h2⟩ := q; exact ⟨vs, h _ _ h1 nt_dT, RpT.kp f.kp _ _ h2⟩
  | lkd es => exact Rp.mv q f.kp
  | lkl xs => exact FzL.mv q f.kp
end
/-- what the def makes of what is told -/
def toldT (T : Option Str) (Q : VK) : VK := fun v H => match T with
  | none => Q v H
  | some z => 2 ≤ sizeLine ∧ ∀ p, H p = none → Q (.ref p) (upd H p (.tup [.str z, v]))
def TTsaid (M : Md) (T : Option Str) (nN : Nat) (cb : Addr → Str → Option Addr → En → Sto → SR) (ok : Str → Addr → Prop) (CS : Addr) : (XK → Hp → VK → Prop) → Hp → VK → Prop := fun tl H Q =>
  tl (fun cls d H' => PySem.W.exmOne M.K cls (.ref CS) = some true ∧ ∀ a, H' a = none → flP M nN cb ok cls d a H' Q) H (toldT T Q)
section
variable {X : Cx} {M : Md} {x a e q CSn fl : Str} {sg : Scope} {g CS : Addr} {cdg : Value} {k nN : Nat} {cb : Addr → Str → Option Addr → En → Sto → SR} {ok : Str → Addr → Prop} {p1 p2 p3 p4 p5 p6 p7 p8 p9 p10 : Pos}
theorem said_givesT {T : Str} {j kt : Nat} {q1 q2 : Pos} (e1 : X.prog = M.P) (e2 : X.w = M.w) (e3 : X.K = M.K) (e4 : X.mg = M.mg) (e5 : X.base = M.base) (F : FlFn M fl k nN cb ok) (hr : L2H.RoomH (k + 2) X.A) (SC : FnScope [a, e] [a] sg) (hle : sg.names.lookup e = some .local) (hce : sg.names.lookup CSn = some .globalImplicit) (hfl : sg.names.lookup fl = some .globalImplicit) (hmc : M.mg CSn = some (.ref CS))
    (d1 : (CSn == ("__debug__" : Str)) = false) (d2 : (e == ("__debug__" : Str)) = false) (d3 : (e == ("__classdict__" : Str)) = false) (d4 : (fl == ("__debug__" : Str)) = false) :
    GivesTo X [a, e] x sg g cdg [.Try [.Return (some (.Tuple [.Constant (.str T) j q1, .Call (.Name a p1) [] [] p2] kt q2)) p3] [.ExceptHandler (some (.Name CSn p4)) (some e) [.Return (some (.Call (.Name fl p5) [.Name e p6] [] p7)) p8] p9] [] [] p10] a q (TTsaid M (some T) nN cb ok CS) := by
  intro f c' s H Q tl act hc h
  refine ⟨_, pss_one (ps_try_as (X := (cxOf C8.CX0 X.prog X.w X.K X.mg X.base [a, e] x sg g cdg X.A X.stack s H C8.E0).nox) (c := .ref CS) (i := 1)
      (tb := fun W D σ H => ∃ Ech : XK, (∀ cls d σ' H', Ech cls d H' → W cls d σ' H') ∧ σ[0]? = some (some (.ref f)) ∧ H c' = some (CodeO c' q) ∧ tl Ech H (toldT (some T) D.rt))
      rfl rfl SC.nd rfl hle ⟨hce, d1, .inl (by rw [← e4] at hmc; exact hmc)⟩ L2.takes0 (fun W pn xe tk _ => ?_) (fun a' oe cls d pn hz hf => pss_one (ps_ret (pe_flags (i := 1) e1 e2 e3 e4 e5 F ⟨?_, ?_⟩ hfl hz hf rfl (.inl hle) d2 d3 d4)))), ?_⟩
  · refine ⟨fun pins s' σ H' D I h' => ?_⟩
    obtain ⟨Ech, hW, h1, h2, h3⟩ := h'
    have hp := pa_cons (pe_str (x := T) (j := j) (pos := q1)) (pa_cons (act W pn xe Ech p1 p2 tk hW) pa_nil)
    refine (pss_one (ps_ret (pos := p3) (pe_tup (x1 := kt) (pos := q2) hp))).run pins s' σ H' D I ?_
    exact ⟨h1, h2, h3⟩
  · have := hr.dp; show X.A.depth + 1 + 3 * (k + 1) + 5 < _; omega
  · have := hr.un; show X.A.units + 3 + 16 * (k + 1) + 200 < _; omega
  · refine ⟨_, fun cls d σ' H' ⟨b1, b2⟩ => ⟨true, by rw [← e3] at b1; exact b1, fun _ a' ha => ⟨fun hl => ?_, b2 a' ha⟩, fun z => Bool.noConfusion z⟩, rfl, hc, h⟩
    rw [List.length_set] at hl
    exact List.getElem?_set_self (by rw [hl]; exact Nat.lt_succ_self 1)
end
end
section
variable [Wtp] [Tbl]
open LamX
/-- x(lambda: body), x told as above -/
def toldD (T : Option Str) (x : PyData) : PyData := match T with
  | none => x
  | some z => .tuple [.str z, x]
@[simp] theorem toldD_none (x : PyData) : toldD none x = x := rfl
@[simp] theorem toldD_some (z : Str) (x : PyData) : toldD (some z) x = .tuple [.str z, x] := rfl
def saidR (T : Option Str) (fl : Xc → Option PyData) (n : Nat) : Rs Wv → Rs Wv
  | .ok w st' => match frzL n st' w with
    | some x => .ok (.d (toldD T x)) (st'.take n)
    | none => .no
  | .ex e st' => match fl e with
    | some y => .ok (.d y) (st'.take n)
    | none => .no
  | .no => .no
@[simp] theorem saidR_d (T : Option Str) (fl : Xc → Option PyData) (n : Nat) (x : PyData) (st : Sto) : saidR T fl n (.ok (.d x) st) = .ok (.d (toldD T x)) (st.take n) := rfl
theorem saidR_ex (T : Option Str) (fl : Xc → Option PyData) (n : Nat) {e : Xc} {y : PyData} (h : fl e = some y) (st : Sto) : saidR T fl n (.ex e st) = .ok (.d y) (st.take n) := by unfold saidR; simp [h]
structure SaidT (M : Md) (x : Str) (kf nN : Nat) (T : Option Str) (fl : Xc → Option PyData) (cb : Addr → Str → Option Addr → En → Sto → SR) (ok : Str → Addr → Prop) : Prop where
  at' : ∃ (g : Addr) (od an : Option Addr) (sl : Array (Option Value)) (oc kV dc pm cd ct : Value) (pg : Arguments) (bg : List Stmt) (sg : Scope) (a e : Str) (CS : Addr),
    M.mg x = some (.ref g) ∧ M.K.lookup g = some ⟨oc, od, .func (PySem.W.fnOf x x pg bg sg .none kV dc pm an cd ct), sl⟩ ∧ PySem.W.codeIn M.K cd x = true ∧ PySem.W.keepIn M.K (.ref g) = true ∧ Binds M.K (PySem.W.fnOf x x pg bg sg .none kV dc pm an cd ct) [a] [] ∧
    FnScope [a, e] [a] sg ∧ ((a == ("__debug__" : Str)) = false ∧ (a == ("__classdict__" : Str)) = false) ∧ (∀ (X : Cx) (q : Str), X.prog = M.P → X.w = M.w → X.K = M.K → X.mg = M.mg → X.base = M.base → L2H.RoomH (kf + 2) X.A → GivesTo X [a, e] x sg g cd bg a q (TTsaid M T nN cb ok CS)) ∧
    ∀ (xn : Str) (C : Addr), M.mg xn = some (.ref C) → ok xn C → PySem.W.exmOne M.K (.ref C) (.ref CS) = some true
  fl' : ∀ (e : Xc) (y : PyData), fl e = some y → ∃ C, M.mg e.name = some (.ref C) ∧ ok e.name C ∧ ∀ (ea : Addr) (p : Option (Addr × List (Str × PyData))) (st : Sto), (e.fs = [] ∧ p = none ∨ ∃ dd, p = some (dd, e.fs)) → mkF 1 nN (cb ea e.name (p.map (·.1))) [.x ea e.name p] st = .ok (.d y) st
def Tb.lam (B : Tb) (us : List Nat) (gs : List Str) : Tb := ⟨B.N, us, [], [], gs, [], false, false, none⟩
def lamB (B : Tb) (us : List Nat) (gs : List Str) (sc : Scope) : Bool :=
  decide (sc.kind = .function) && (!sc.isCoroutine && (!sc.isGenerator && ((sc.names.all fun y => !decide (y.2 = .local) && (!decide (y.2 = .cell) && (!decide (y.2 = .free) || decide (y.1 ∈ B.cs)))) &&
    ((us.all fun i => match B.N[i]? with | some x => kdV (sc.names.lookup x) | none => true) && (gs.all fun x => kdG (sc.names.lookup x))))))
section
variable {M : Md} {X : Cx} {B : Tb} {k kf kb nN : Nat} {x q : Str} {T : Option Str} {fl : Xc → Option PyData} {cb : Addr → Str → Option Addr → En → Sto → SR} {ok : Str → Addr → Prop} {scope : Scope} {params : Arguments} {body : Expr} {cl : En → Sto → Rs Wv} {lpos p pos : Pos}
theorem lam_cxt (c : Cxt M X B k) (us : List Nat) (gs : List Str) (h : lamB B us gs scope = true) {A : Around} {outer : List Env} {s : Shared} {H : Hp} {E : XK} {f c' : Addr} (hr : Room kb (A.deeper (lamEnv X scope s.heap.objs.size f c'))) : Cxt M (lamCx X A outer s H E scope f c') (B.lam us gs) kb := by
  unfold lamB at h
  simp only [Bool.and_eq_true, List.all_eq_true] at h
  obtain ⟨h1, h2, h3, h4, h5, h6⟩ := h
  refine ⟨c.hP, c.hw, c.hK, c.mg, c.hb, c.hN, c.nd, rfl, fun z => (Bool.false_ne_true z).elim, hr, fun z => (Bool.false_ne_true z).elim, fun i hi x hx => ?_, fun i hi => absurd hi List.not_mem_nil, fun i hi => absurd hi List.not_mem_nil, fun j x hx => ?_, fun x hx => absurd hx List.not_mem_nil, fun z => (Bool.false_ne_true z).elim, (fun q z => nomatch (show (none : Option Str) = some q from z)), fun z => (Bool.false_ne_true z).elim⟩
  · have q := h5 i hi
    rw [show B.N[i]? = some x from hx] at q
    exact kdV_vis q
  · exact kdG_gl (h6 x (List.mem_of_getElem? hx))
theorem lam_s (c : Cxt M X B k) {us : List Nat} {gs : List Str} (h : lamB B us gs scope = true) : LamS X.env.scope scope := by
  unfold lamB at h
  simp only [Bool.and_eq_true, List.all_eq_true, Bool.not_eq_true', decide_eq_true_eq, decide_eq_false_iff_not, Bool.or_eq_true] at h
  obtain ⟨h1, h2, h3, h4, h5, h6⟩ := h
  refine ⟨h1, h2, h3, fun y hy => ⟨(h4 y hy).1, (h4 y hy).2.1⟩, fun y hy e => ?_⟩
  rcases (h4 y hy).2.2 with z | z
  · exact absurd e z
  · exact c.cs _ z
end
end
section
variable [Wtp] [Tbl]
open LamX
/-! ## facts of the classes that are raised -/
structure XcA (M : Md) (CSn : Str) (ys : List Str) (fl : List (Str × List Str)) (xn : Str) (C : Addr) : Prop where
  mg : M.mg xn = some (.ref C)
  ok : fl.lookup xn = none → XcOk M xn C
  xf : XfC M.K C
  nof : ∀ f ∈ (fl.lookup xn).getD [], PySem.W.findIn M.K (.ref C) f = some none
  exc : ExcC M.K C
  own : ∀ y ∈ ys, ∃ C2, M.mg y = some (.ref C2) ∧ PySem.W.kitOne M.K (.ref C) (.ref C2) = some (decide (xn = y))
  ve : PySem.W.kitOne M.K (.ref C) (.type "ValueError") = some true
  no4 : PySem.W.kitAny M.K (.ref C) (["LookupError", "TypeError", "ArithmeticError", "RuntimeError"].map Value.type) = some false
  sto : ∀ CS, M.mg CSn = some (.ref CS) → PySem.W.exmOne M.K (.ref C) (.ref CS) = some true
def ownB (K : Frg) (C : Addr) (xn y : Str) : Bool := match PySem.W.nsIn K mainGlobals y with
  | some (some (.ref C2)) => PySem.W.kitOne K (.ref C) (.ref C2) == some (decide (xn = y))
  | _ => false
def xcB (K : Frg) (CSn : Str) (ys : List Str) (fl : List (Str × List Str)) (xn : Str) (C : Addr) : Bool :=
  (((fl.lookup xn).getD []).all fun f => decide (PySem.W.findIn K (.ref C) f = some none)) && (
  PySem.W.keepIn K (.ref C) && (PySem.W.subIn K (.ref C) (.type "BaseException") == some true && (PySem.W.typeIn K (.ref C) == some (.type "type") &&
  (decide (PySem.W.findIn K (.ref C) "__getattribute__" = some (some (.builtin "BaseException.__getattribute__"))) && (decide (PySem.W.findIn K (.ref C) "__getattr__" = some none) && (PySem.W.hasDictIn K C &&
  (decide (PySem.W.findIn K (.ref C) "__class__" = some (some (.builtin "object.__class__"))) && (decide (PySem.W.specialIn K (.builtin "object.__class__") "__get__" = some (some (.builtin "getset_descriptor.__get__"))) && (PySem.W.takesIn K (.builtin "object.__class__") == some true &&
  (PySem.W.mroIn K C (.type "object") == some true && (ys.all (ownB K C xn) && (PySem.W.kitOne K (.ref C) (.type "ValueError") == some true && (PySem.W.kitAny K (.ref C) (["LookupError", "TypeError", "ArithmeticError", "RuntimeError"].map Value.type) == some false &&
  (match PySem.W.nsIn K mainGlobals CSn with | some (some (.ref CS)) => PySem.W.exmOne K (.ref C) (.ref CS) == some true | _ => false))))))))))))))
theorem xcA_of {M : Md} {CSn : Str} {ys : List Str} {fl : List (Str × List Str)} {xn : Str} {C : Addr} {h : Heap} (X : M.K.In h) (G : h.Ns mainGlobals M.mg) (a : PySem.W.nsIn M.K mainGlobals xn = some (some (.ref C))) (e : fl.lookup xn = none → PySem.W.excIn M.K C bmV "ValueError.__new__" = true) (b : xcB M.K CSn ys fl xn C = true) : XcA M CSn ys fl xn C := by
  unfold xcB at b
  simp only [Bool.and_eq_true, decide_eq_true_eq, beq_iff_eq] at b
  obtain ⟨b0, b1, b2, b3, b4, b5, b6, b7, b8, b9, b10, b11, b12, b13, b14⟩ := b
  refine ⟨PySem.W.mg_of X G a, fun z => ⟨PySem.W.mg_of X G a, e z, b1, b2, b3⟩, ⟨b4, b5, b2, b6⟩, fun f hf => of_decide_eq_true (List.all_eq_true.mp b0 f hf), ⟨b4, b5, b2, b6, b7, b8, b9, b10⟩, fun y hy => ?_, b12, b13, fun CS hCS => ?_⟩
  · have q := List.all_eq_true.mp b11 y hy
    unfold ownB at q
    split at q
    · rename_i C2 hn
      exact ⟨C2, PySem.W.mg_of X G hn, beq_iff_eq.mp q⟩
    · cases q
  · split at b14
    · rename_i CS2 hn
      have z := PySem.W.mg_of X G hn
      rw [hCS] at z
      cases z
      exact beq_iff_eq.mp b14
    · cases b14
section
variable {M : Md} {X : Cx} {B : Tb} {k : Nat} {pos p p2 p3 p4 p5 apos : Pos} {ea C : Addr} {xn : Str} {d : Option Addr}
theorem deh_isO (c : Cxh M X B k ea xn C d) (T : ExcC M.K C) (i j jj : Nat) {x y : Str} {b : Bool} (h : B.N[i]? = some x) (hu : i ∈ B.us) (hi : B.gs[jj]? = some ("isinstance" : Str)) (hm : M.mg "isinstance" = none) (hg : B.gs[j]? = some y) (o : ∃ C2, M.mg y = some (.ref C2) ∧ PySem.W.kitOne M.K (.ref C) (.ref C2) = some b)
    (hd : (x == ("__debug__" : Str)) = false := by decide) (hc : (x == ("__classdict__" : Str)) = false := by decide) (hd2 : (y == ("__debug__" : Str)) = false := by decide)
    (he : starEach [.Name x p, .Name y p2] X.env = (false, eval (.Name x p) X.env) :: starEach [.Name y p2] X.env := by rfl) (hpl : (backTo pos (starEach [.Name y p2] X.env)).any (·.1) = false := by rfl) :
    DE X (.Call (.Name "isinstance" p4) [.Name x p, .Name y p2] [] pos) (eIsx ea xn d b i) := by
  obtain ⟨C2, h1, h2⟩ := o
  exact deh_isg (p5 := p) c T i j jj h hu hi hm hg h1 h2 hd hc hd2 he hpl
def eNo : En → Sto → Rs Wv := fun _ _ => .no
theorem de_no {e : Expr} : DE X e eNo := ⟨fun W tk => ⟨fun pins s σ H Q I ⟨m, env, st, S, R, hp⟩ => hp.elim⟩⟩
@[simp] theorem x_isx (ea : Addr) (xn : Str) (p : Option (Addr × List (Str × PyData))) (b : Bool) (i : Nat) (env : En) (st : Sto) (h : env[i]? = some (some (.x ea xn p))) : eIsx ea xn (p.map (·.1)) b i env st = .ok (.d (.bool b)) st := by
  unfold eIsx
  rw [h]
  simp [xHas]
end
/-! ## the def that asks, from the top -/
theorem saidT_of {M : Md} {x a e CSn : Str} {sf : Stmt} {kf nN : Nat} {T : Option Str} {fl : Xc → Option PyData} {cb : Addr → Str → Option Addr → En → Sto → SR} {ys : List Str} {fL : List (Str × List Str)} {CS : Addr} (TF : TopFn M x sf [a]) (SC : FnScope [a, e] [a] (defScope sf)) (hv : (a == ("__debug__" : Str)) = false ∧ (a == ("__classdict__" : Str)) = false) (hmc : M.mg CSn = some (.ref CS))
    (hG : ∀ (X : Cx) (g : Addr) (cd : Value) (q : Str), X.prog = M.P → X.w = M.w → X.K = M.K → X.mg = M.mg → X.base = M.base → L2H.RoomH (kf + 2) X.A → GivesTo X [a, e] x (defScope sf) g cd (defBody sf) a q (TTsaid M T nN cb (XcA M CSn ys fL) CS))
    (hfl : ∀ (e : Xc) (y : PyData), fl e = some y → ∃ C, M.mg e.name = some (.ref C) ∧ XcA M CSn ys fL e.name C ∧ ∀ (ea : Addr) (p : Option (Addr × List (Str × PyData))) (st : Sto), (e.fs = [] ∧ p = none ∨ ∃ dd, p = some (dd, e.fs)) → mkF 1 nN (cb ea e.name (p.map (·.1))) [.x ea e.name p] st = .ok (.d y) st) :
    SaidT M x kf nN T fl cb (XcA M CSn ys fL) := by
  obtain ⟨f, od, an, sl, oc, kV, dc, pm, cd, ct, h1, h2, h3, h4, h5⟩ := TF.at'
  exact ⟨⟨f, od, an, sl, oc, kV, dc, pm, cd, ct, _, _, _, a, e, CS, h1, h2, h3, h4, h5, SC, hv, fun X q => hG X f cd q, fun xn C _ hx => hx.sto CS hmc⟩, hfl⟩
/-- the table of one def, from the written part -/
theorem lamT_of {M : Md} {x q : Str} {c P : Addr} {h : Heap} (X : M.K.In h) (G : h.Ns mainGlobals M.mg) (ht : PySem.W.tabIn M.K x = some (c, P)) (hq : (x ++ ".<locals>.") ++ "<lambda>" = q) (hm : (P, q) ∈ Tbl.T) (hu : ∀ p ∈ Tbl.T, p.1 = P → p.2 = q) (TB : TabB M.base M.mg c P) : LamT M x q := by
  refine ⟨hq, c, P, fun f oc od fd sl h1 h2 => ?_, hm, hu, TB⟩
  exact PySem.W.law_code X G ht h1 (X _ _ h2) rfl
theorem ds_raiseO {M : Md} {X : Cx} {B : Tb} {k : Nat} {pos p p2 p3 : Pos} {CSn : Str} {ys : List Str} {fL : List (Str × List Str)} (c : Cxt M X B k) (j : Nat) {x m : Str} {jj : Nat} (hg : B.gs[j]? = some x) (E : ∃ C, XcA M CSn ys fL x C) (hn : fL.lookup x = none := by rfl) (hdb : (x == ("__debug__" : Str)) = false := by decide) :
    DS X (.Raise (some (.Call (.Name x p) [.Constant (.str m) jj p2] [] p3)) none pos) (sRaise x) := by
  obtain ⟨C, hC⟩ := E
  exact ds_raise c j hg (hC.ok hn) hdb
/-! ## an attribute of the exception: a field of its class, or no field -/
def eXfO (fl : List (Str × List Str)) (ea : Addr) (xn : Str) (d : Option Addr) (f : Str) (i : Nat) : En → Sto → Rs Wv := if f ∈ (fl.lookup xn).getD [] then eXf ea xn d f i else eNo
theorem deh_xfO {M : Md} {X : Cx} {B : Tb} {k : Nat} {pos p : Pos} {ea C : Addr} {xn : Str} {d : Option Addr} {CSn : Str} {ys : List Str} {fL : List (Str × List Str)} (c : Cxh M X B k ea xn C d) (E : XcA M CSn ys fL xn C) (i : Nat) {x f : Str} (h : B.N[i]? = some x) (hu : i ∈ B.us) (hd : (x == ("__debug__" : Str)) = false := by decide) (hc : (x == ("__classdict__" : Str)) = false := by decide)
    (hb : attributeBase (.Name x p) f X.env (eval (.Name x p) X.env) = eval (.Name x p) X.env := by rfl) : DE X (.Attribute (.Name x p) f pos) (eXfO fL ea xn d f i) := by
  unfold eXfO
  split
  · rename_i hf
    exact deh_xf c E.xf i (E.nof f hf) h hu hd hc hb
  · exact de_no
@[simp] theorem x_xf (ea dd : Addr) (xn f : Str) (es : List (Str × PyData)) (y : PyData) (i : Nat) (env : En) (st : Sto) (h : env[i]? = some (some (.x ea xn (some (dd, es))))) (hy : es.lookup f = some y) : eXf ea xn (some dd) f i env st = .ok (.d y) st := by
  unfold eXf
  rw [h]
  simp [hy]
/-! ## what is said of the classes: the word, the fields -/
abbrev FlTab := List (Str × Str × List Str)
def flL (l : FlTab) : Xc → Option PyData := fun e => match l.lookup e.name with
  | some (w, fns) => if e.fs.map (·.1) = fns.reverse then some (.tuple (.str w :: (e.fs.reverse.map (·.2)))) else none
  | none => none
/-- what the written part must show of one class -/
def FvOk (nN : Nat) (cb : Addr → Str → Option Addr → En → Sto → SR) (x w : Str) (fns : List Str) : Prop :=
  ∀ (ea : Addr) (p : Option (Addr × List (Str × PyData))) (fs : List (Str × PyData)) (st : Sto), fs.map (·.1) = fns.reverse → (fs = [] ∧ p = none ∨ ∃ dd, p = some (dd, fs)) → mkF 1 nN (cb ea x (p.map (·.1))) [.x ea x p] st = .ok (.d (.tuple (.str w :: (fs.reverse.map (·.2))))) st
def FlOk (M : Md) (CSn : Str) (ys : List Str) (fL : List (Str × List Str)) (nN : Nat) (cb : Addr → Str → Option Addr → En → Sto → SR) (l : FlTab) : Prop :=
  ∀ x w fns, l.lookup x = some (w, fns) → (∃ C, XcA M CSn ys fL x C) ∧ FvOk nN cb x w fns
section
variable {M : Md} {CSn : Str} {ys : List Str} {fL : List (Str × List Str)} {nN : Nat} {cb : Addr → Str → Option Addr → En → Sto → SR} {l : FlTab}
theorem flL_nil : FlOk M CSn ys fL nN cb [] := fun x w fns h => nomatch h
theorem flL_cons {x w : Str} {fns : List Str} (h1 : ∃ C, XcA M CSn ys fL x C) (h2 : FvOk nN cb x w fns) (h : FlOk M CSn ys fL nN cb l) : FlOk M CSn ys fL nN cb ((x, w, fns) :: l) := fun y v vs e => by
  rw [List.lookup_cons] at e
  split at e
  · rename_i q
    cases e
    cases eq_of_beq q
    exact ⟨h1, h2⟩
  · exact h y v vs e
theorem fv_0 {x w : Str} (h2 : ∀ (ea : Addr) (p : Option (Addr × List (Str × PyData))) (st : Sto), mkF 1 nN (cb ea x (p.map (·.1))) [.x ea x p] st = .ok (.d (.tuple [.str w])) st) : FvOk nN cb x w [] := fun ea p fs st e _ => by
  cases fs with
  | nil => exact h2 ea p st
  | cons => cases e
theorem flL_ok (h : FlOk M CSn ys fL nN cb l) : ∀ (e : Xc) (y : PyData), flL l e = some y → ∃ C, M.mg e.name = some (.ref C) ∧ XcA M CSn ys fL e.name C ∧ ∀ (ea : Addr) (p : Option (Addr × List (Str × PyData))) (st : Sto), (e.fs = [] ∧ p = none ∨ ∃ dd, p = some (dd, e.fs)) → mkF 1 nN (cb ea e.name (p.map (·.1))) [.x ea e.name p] st = .ok (.d y) st := fun e y hy => by
  unfold flL at hy
  split at hy
  · rename_i w fns q
    split at hy
    · rename_i hf
      cases hy
      obtain ⟨⟨C, hC⟩, h2⟩ := h _ _ _ q
      exact ⟨C, hC.mg, hC, fun ea p st hp => h2 ea p e.fs st hf hp⟩
    · cases hy
  · cases hy
end
theorem sh_isx (ea : Addr) (xn : Str) (p : Option (Addr × List (Str × PyData))) (b : Bool) (env : En) (st : Sto) : eIsx ea xn (p.map (·.1)) b 0 (some (.x ea xn p) :: env) st = .ok (.d (.bool b)) st := x_isx _ _ _ _ _ _ _ rfl
end
section
variable [Wtp]
/-! ## the law's own call, with tables of code objects -/
theorem law_runT {TT : Tbl} {cs : List (Addr × Addr)} (hTT : ∀ p ∈ TT.T, ∃ c, (c, p.1) ∈ cs) {g : Bool} {P : Program} {w : World} {K : Frg} {mg mb : Str → Option Value} {k : Nat} {fa a : Addr} {fd : FuncData} {x : Str} {mf : List Wv → Sto → Rs Wv} {st9 : Sto} {s : Shared} {us : List Value} {ns : List Int}
    (inK : K.In s.heap) (glob : s.heap.Ns mainGlobals mg) (bns : s.heap.Ns builtinsNs mb) (bok : ∀ x : Str, x ≠ "__name__" → mb x = bootBuiltins x) (nolim : s.heap.NoLimit) (sm : SysM s.heap) (hgen : s.gens = #[])
    (tab0 : ∀ p ∈ cs, s.heap.get? p.2 = some (PySem.W.tabObj #[])) (tabK : ∀ p ∈ cs, K.lookup p.2 = none) (tabC : ∀ p ∈ cs, PySem.W.CodeHd s.heap p.1 p.2)
    (bmod : ∃ (bm : Addr) (ob : Obj), mg "__builtins__" = some (.ref bm) ∧ bm ≠ builtinsNs ∧ s.heap.get? bm = some ob ∧ ob.cls = .type "module" ∧ ob.dict = some builtinsNs ∧ ob.data = .plain)
    (hobj : s.heap.get? a = some { cls := .type "list", data := .seq us.toArray }) (hint : IntsAre us ns) (hlen : ns.length ≤ sizeLine) (room : Room k callerA)
    (F : ∀ base : Heap, K.In base → base.Ns mainGlobals mg → SysM base → (∀ p ∈ cs, LamX.TabB base mg p.1 p.2) → @Fnk _ TT ⟨P, w, K, mg, base⟩ g k fa fd [x] mf) (bind : ∀ (s : Shared) (u : Value), BindsTo s fd ⟨[u], []⟩ [(x, u)])
    (law : mf [.d (.list (ns.map .int))] [] = .ok (.d (.bool true)) st9) :
    codeAny (model P w) callerA (.call (.ref fa) ⟨[.ref a], []⟩) (fun r s' => r = .ok (.ret (.bool true)) ∧ OldK s.heap s'.heap ∧ s'.os = s.os ∧ AllBare s'.gens) s := by
  have rel := vals_ints hint
  have ulen := hint.length
  have nla : ∀ p ∈ cs, p.2 ≠ a := fun p hp z => by
    have q := tab0 p hp
    rw [z, hobj] at q
    exact absurd (congrArg Obj.data (Option.some.inj q)) fun z => nomatch z
  -- what may be tracked: the script, the tables
  have go : ∀ H : Hp, (∀ b u, H b = some u → (b = a ∧ ∃ o, u = .frz o (.lst (ns.map V.int)) ∧ s.heap.get? b = some o) ∨ ((∃ p ∈ cs, p.2 = b) ∧ u = .tbl #[])) → (∀ p ∈ cs, H p.2 = some (.tbl #[])) → LsX K H a (ns.map V.int) → HOk P w H s.heap → (H a ≠ none → K.lookup a = none) →
      codeAny (model P w) callerA (.call (.ref fa) ⟨[.ref a], []⟩) (fun r s' => r = .ok (.ret (.bool true)) ∧ OldK s.heap s'.heap ∧ s'.os = s.os ∧ AllBare s'.gens) s := by
    intro H only isT ls ok away
    have base0 : ∀ {b : Addr} {o : Obj}, s.heap.get? b = some o → H b = none → (hidT s.heap H).get? b = some o := fun e n => hidT_get e n
    have free : ∀ {b : Addr} {o : Obj}, s.heap.get? b = some o → (∀ ys n, o.data ≠ .seq ys n) → o.data ≠ .fields #[] → H b = none := fun {b o} e d1 d2 => by
      cases q : H b with
      | none => rfl
      | some u =>
        rcases only b u q with ⟨rfl, _⟩ | ⟨⟨p, hp, rfl⟩, _⟩
        · rw [hobj] at e
          cases e
          exact absurd rfl (d1 _ _)
        · rw [tab0 p hp] at e
          cases e
          exact absurd rfl d2
    have ns' : ∀ {b : Addr} {m : Str → Option Value}, s.heap.Ns b m → (hidT s.heap H).Ns b m := fun {b m} h => by
      obtain ⟨o, es, ep, e, d, r⟩ := h
      exact ⟨o, es, ep, base0 e (free e (fun ys n z => by rw [d] at z; cases z) fun z => by rw [d] at z; cases z), d, r⟩
    have inB : K.In (hidT s.heap H) := fun b o e => base0 (inK b o e) (by
      cases q : H b with
      | none => rfl
      | some u =>
        rcases only b u q with ⟨rfl, _⟩ | ⟨⟨p, hp, rfl⟩, _⟩
        · rw [away (by rw [q]; exact fun z => nomatch z)] at e
          cases e
        · rw [tabK p hp] at e
          cases e)
    have TB : ∀ p ∈ cs, LamX.TabB (hidT s.heap H) mg p.1 p.2 := fun p hp => by
      have tp := tab0 p hp
      have gP : mainGlobals ≠ p.2 := fun z => by
        obtain ⟨o, es, ep, e, d, _⟩ := glob
        rw [z, tp] at e
        cases e
        cases d
      refine ⟨?_, ?_, gP⟩
      · obtain ⟨o, fs, f1, f2, f3, f4, f5, f6, f7, e1, r1, r2, r3, rest⟩ := tabC p hp
        refine ⟨o, fs, f1, f2, f3, f4, f5, f6, f7, base0 e1 (free e1 (fun ys n z => ?_) fun z => ?_), r1, r2, r3, rest⟩
        · rw [r2] at z; cases z
        · rw [r2] at z
          cases z
          simp at r3
      · obtain ⟨bm, ob, b1, b2, b3, b4, b5, b6⟩ := bmod
        refine ⟨bm, ob, b1, b2, fun z => ?_, fun z => ?_, base0 b3 (free b3 (fun ys n z => ?_) fun z => ?_), b4, b5, b6⟩
        · obtain ⟨o, es, ep, e, d, _⟩ := glob
          rw [z, e] at b3
          cases b3
          rw [b6] at d
          cases d
        · rw [z, tp] at b3
          cases b3
          cases b6
        · rw [b6] at z; cases z
        · rw [b6] at z; cases z
    obtain ⟨mc, lim1, lim2⟩ := nolim
    have hmod : Mod K mg (hidT s.heap H) := ⟨inB, ns' glob, ⟨mb, ns' bns, bok⟩, ⟨mc, ns' lim1, lim2⟩⟩
    have env : Env0 P w K mg (hidT s.heap H) callerA [] s H := ⟨rfl, hmod, fun b o e => of_hidT e, Nat.le_of_eq (hidT_size _ _), trivial, fun b hb => absurd hb List.not_mem_nil, ok, .of_eq hgen⟩
    have S : @Sim _ TT K H ⟨fun _ => a, fun _ => False⟩ [] := ⟨fun i o e => by simp at e, fun i j hi => absurd hi (Nat.not_lt_zero _), fun b z => z.elim, fun i hi => absurd hi (Nat.not_lt_zero _), fun p hp => by
      obtain ⟨c, hc⟩ := hTT p hp
      exact LamX.TabS.nil (isT (c, p.1) hc)⟩
    have items : ∀ l : List Int, RpA K H (Off ⟨fun _ => a, fun _ => False⟩ 0) (l.map V.int) (l.map PyData.int) := fun l => by
      induction l with
      | nil => exact .nil
      | cons i l ih => exact .cons (.int i) ih
    have off : Off ⟨fun _ => a, fun _ => False⟩ 0 a := ⟨fun i hi => absurd hi (Nat.not_lt_zero _), fun z => z⟩
    have arg : RWs K H ⟨fun _ => a, fun _ => False⟩ 0 [.ref a] [.d (.list (ns.map .int))] := .cons (.lst (by
      rcases ls with ⟨h, _⟩ | h | h
      · exact .inl ⟨h, off⟩
      · exact .inr (.inl h)
      · exact .inr (.inr h)) (items ns)) .nil
    refine codeAny_mono ((F _ inB (ns' glob) (let ⟨o, es, ep, e, d⟩ := sm; ⟨o, es, ep, base0 e (free e (fun ys n z => by rw [d] at z; cases z) fun z => by rw [d] at z; cases z), d⟩) TB).run callerA [] s H ⟨[.ref a], []⟩ [.ref a] [.ref a] _ _ [] (fun v _ => v = .bl true) (fun _ _ _ => False) room (fun _ => rfl) env (bind s (.ref a)) (.cons rfl .nil) S arg (by
      rw [law]
      intro v H' m' f S' r
      cases r
      rfl)) fun r s' hr => ?_
    cases r with
    | error e =>
      obtain ⟨_, _, _, _, _, _, _, _, _, _, _, _, z⟩ := hr
      exact z.elim
    | ok fl =>
      cases fl with
      | next => exact hr.elim
      | brk => exact hr.elim
      | cont => exact hr.elim
      | ret u =>
        obtain ⟨v, H', os, bare, un, ok', rv, ev⟩ := hr
        have ev : v = .bl true := ev
        subst ev
        cases (show u = Value.bool true from rv)
        have still : ∀ b o, s.heap.get? b = some o → (∃ p ∈ cs, p.2 = b) ∨ s'.heap.get? b = some o := fun b o e => by
          cases q : H b with
          | none => exact .inr (un.keep b o e q (fun z => absurd z List.not_mem_nil) List.not_mem_nil)
          | some u =>
            rcases only b u q with ⟨rfl, ob, rfl, e1⟩ | ⟨hp, _⟩
            · rw [e] at e1
              cases e1
              exact .inr (ok' _ _ (un.frzs _ _ _ q)).1
            · exact .inl hp
        have more : ∀ p ∈ cs, ∃ ps : Array Value, s'.heap.get? p.2 = some { cls := .none, data := .fields ps } := fun p hp => by
          obtain ⟨ps, z⟩ := un.tbls p.2 #[] (isT p hp)
          exact ⟨_, ok' p.2 _ z⟩
        refine ⟨rfl, ⟨fun b o e => ?_, fun b o e => ?_⟩, os, bare⟩
        · rcases still b o e with ⟨p, hp, rfl⟩ | z
          · obtain ⟨ps, hps⟩ := more p hp
            rw [tab0 p hp] at e
            cases e
            exact .inr (.inl ⟨((tabC p hp).tab (tab0 p hp)).isCodeTable, rfl, #[], ps, rfl, by simpa using hps⟩)
          · exact .inl z
        · rcases still b o e with ⟨p, hp, rfl⟩ | z
          · obtain ⟨ps, hps⟩ := more p hp
            exact ⟨_, hps⟩
          · exact ⟨o, z⟩
  have inT : ∀ b, (b ∈ cs.map (·.2)) ↔ ∃ p ∈ cs, p.2 = b := fun b => List.mem_map
  have anT : ¬ a ∈ cs.map (·.2) := fun z => by
    obtain ⟨p, hp, e⟩ := (inT a).mp z
    exact nla p hp e
  cases hk : K.lookup a with
  | some o =>
    have e := inK a o hk
    rw [hobj] at e
    cases e
    have one : ∀ {b u}, (if b ∈ cs.map (·.2) then some (HO.tbl #[]) else none) = some u → (∃ p ∈ cs, p.2 = b) ∧ u = .tbl #[] := fun {b u} z => by
      split at z
      · rename_i hb
        cases z; exact ⟨(inT b).mp hb, rfl⟩
      · cases z
    refine go (fun b => if b ∈ cs.map (·.2) then some (.tbl #[]) else none) (fun b u z => .inr (one z)) (fun p hp => if_pos ((inT _).mpr ⟨p, hp, rfl⟩)) (.inr (.inr ⟨us.toArray, _, hk, by rw [List.size_toArray, ulen]; exact hlen, by simpa using rel⟩)) (fun b u z => ?_) fun z => absurd (if_neg anT) z
    obtain ⟨⟨p, hp, rfl⟩, rfl⟩ := one z
    exact tab0 p hp
  | none =>
    have one : ∀ {b u}, (if b = a then some (HO.frz { cls := .type "list", data := .seq us.toArray } (.lst (ns.map V.int))) else if b ∈ cs.map (·.2) then some (HO.tbl #[]) else none) = some u → (b = a ∧ u = .frz { cls := .type "list", data := .seq us.toArray } (.lst (ns.map V.int))) ∨ ((∃ p ∈ cs, p.2 = b) ∧ u = .tbl #[]) := fun {b u} z => by
      split at z
      · cases z; exact .inl ⟨by assumption, rfl⟩
      · split at z
        · rename_i hb
          cases z; exact .inr ⟨(inT b).mp hb, rfl⟩
        · cases z
    refine go (fun b => if b = a then some (.frz { cls := .type "list", data := .seq us.toArray } (.lst (ns.map V.int))) else if b ∈ cs.map (·.2) then some (.tbl #[]) else none) (fun b u z => ?_) (fun p hp => ?_) (.inr (.inl ⟨_, if_pos rfl⟩)) (fun b u z => ?_) fun _ => hk
    · rcases one z with ⟨rfl, rfl⟩ | z
      · exact .inl ⟨rfl, _, rfl, hobj⟩
      · exact .inr z
    · show (if p.2 = a then _ else _) = _
      rw [if_neg (nla p hp), if_pos ((inT _).mpr ⟨p, hp, rfl⟩)]
    · rcases one z with ⟨rfl, rfl⟩ | ⟨⟨p, hp, rfl⟩, rfl⟩
      · exact ⟨hobj, by rw [List.length_map]; exact hlen, us, _, rel, hobj⟩
      · exact tab0 p hp
theorem walk_runT {ts : List Addr} {g : Bool} {l : PySem.W.OpenLaw} {n k : Nat} {q : Program} {loose : List Str} {XP : (Str → Option Value) → Heap → Prop} {YP : World → Heap → Prop} {d : DefRec} {K : Params → Frg} {x : Str} {mf : List Wv → Sto → Rs Wv}
    (hI : importsNone q = true) (hn : l.most = some n) (hn2 : n ≤ sizeLine) (hdf : d.params.defaults = []) (hr : Room k callerA) (hY : ∀ (w : World) (h : Heap), YP w h → (K w.params).In h) (hT : ∀ (w : World) (h : Heap), YP w h → ∀ P ∈ ts, h.get? P = some (PySem.W.tabObj #[]))
    (F : ∀ (w : World) (mg : Str → Option Value) (fa : Addr) (h : Heap), (K w.params).In h → h.Ns mainGlobals mg → mg d.name = some (.ref fa) →
      ∃ (fd : FuncData) (TT : Tbl) (cs : List (Addr × Addr)), (∀ p ∈ TT.T, ∃ c, (c, p.1) ∈ cs) ∧ (∀ p ∈ cs, p.2 ∈ ts ∧ (K w.params).lookup p.2 = none ∧ PySem.W.codeHdIn (K w.params) p.1 p.2 = true) ∧
        (∀ (s : Shared) (u : Value), BindsTo s fd ⟨[u], []⟩ [(x, u)]) ∧ ∀ base : Heap, (K w.params).In base → base.Ns mainGlobals mg → SysM base → (∀ p ∈ cs, LamX.TabB base mg p.1 p.2) → @Fnk _ TT ⟨l.prog, w, K w.params, mg, base⟩ g k fa fd [x] mf)
    (law : ∀ ns : List Int, ns.length ≤ n → ∃ st, mf [.d (.list (ns.map .int))] [] = .ok (.d (.bool true)) st) :
    PySem.W.WalkO q loose XP YP l.row.toRowW d [] (fun f vs => PySem.call f vs) := by
  refine Att.attach_call hn hdf fun w s0 s mg mb fa o pm cd doc a us ns G Y ho hd hcd hmg hobj hints hlen hg => ?_
  have inK := hY w _ Y
  obtain ⟨fd, TT, cs, h1, h2, hb, hF⟩ := F w mg fa _ inK G.T.g hmg
  obtain ⟨st, hl⟩ := law ns hlen
  exact law_runT h1 inK G.T.g G.T.b G.T.builtins G.T.nolimit (sysM_of (G.T.seer hI)) hg (fun p hp => hT w _ Y _ (h2 p hp).1) (fun p hp => (h2 p hp).2.1) (fun p hp => PySem.W.codeHd_of_K inK (h2 p hp).2.2) G.T.bmain hobj hints (Nat.le_trans hlen hn2) hr hF hb hl
end
section
variable [Wtp] [Tbl]
open LamX
/-! ## raise of a class with fields: its __init__ tells its base's, then keeps the fields -/
/-! ## the three kinds of __init__ -/
/-! ## the class, the raise -/
def raiseW (x : Str) (fns : List Str) (ws : List Wv) (st1 : Sto) : SR := match allD ws with
  | some ds => if ds.length = fns.length then .ex ⟨x, (fns.zip ds).reverse⟩ st1 else .no
  | none => .no
def sRaiseF (x : Str) (fns : List Str) (cs : En → Sto → Rs (List Wv)) : En → Sto → SR := fun env st => (cs env st).sb (raiseW x fns)
@[simp] theorem x_raiseF (x : Str) (fns : List Str) (c : En → Sto → Rs (List Wv)) (env : En) (st : Sto) : sRaiseF x fns c env st = (c env st).sb (raiseW x fns) := rfl
end
section
variable [Wtp] [Tbl]
/-! ## defs as values: for f in (g, h, ..), f called -/
/-- where the module's defs stand -/
class FnA where
  a : Str → Addr
variable [FnA]
def fnv (x : Str) : Wv := .x (FnA.a x) x none
noncomputable def goF (c : En → Sto → Rs Wv) (i : Nat) (env : En) : List Str → List PyData → Sto → Rs (List PyData)
  | [], acc, st => .ok acc st
  | x :: r, acc, st => match c (env.set i (some (fnv x))) st with
    | .ok (.d y) st2 => goF c i env r (acc ++ [y]) st2
    | _ => .no
noncomputable def eLcF (fs : List Str) (i : Nat) (c : En → Sto → Rs Wv) (vs : List Nat) : En → Sto → Rs Wv := fun env st => (goF c i (wipeE env vs) fs [] st).bind fun ys st2 => .ok (.d (.list ys)) st2
@[simp] theorem x_lcF (fs : List Str) (i : Nat) (c : En → Sto → Rs Wv) (vs : List Nat) (env : En) (st : Sto) : eLcF fs i c vs env st = (goF c i (wipeE env vs) fs [] st).bind fun ys st2 => .ok (.d (.list ys)) st2 := rfl
/-! ### the law's own call, its reading by where the defs stand -/
end
section
variable [Wtp] [Tbl]
open LamX
/-! ## lambdas that are kept in a list -/
/-- nothing more is said of the object -/
def anyU : HO := .ext fun _ => True
theorem any_ok {P : Program} {w : World} {H : Hp} {h : Heap} {a : Addr} {o : Obj} (e : h.get? a = some o) : ObjOk P w H h a (.frz o anyU) := ⟨e, trivial, ⟨o, e⟩, fun _ _ _ _ => trivial⟩
section
variable {X : Cx} {pins : List (Addr × Obj)} {σ : L2.St} {H : Hp} {s : Shared} {params : Arguments} {body : Expr} {scope : Scope}
abbrev lamQ (X : Cx) : Str := X.env.qual ++ "<lambda>"
abbrev lamO (X : Cx) (params : Arguments) (body : Expr) (scope : Scope) (pm : Value) (c' : Addr) (ctv : Value) : Obj := PySem.W.kla_obj "<lambda>" (lamQ X) params body scope (cloFrom X.env.cells scope.names []) pm c' ctv
/-- a table that tells one code object more -/
abbrev moreH (H : Hp) (P c : Addr) (ps : Array Value) (pos : Pos) (q : Str) : Hp := upd (upd H P (.tbl (ps ++ #[rawInt pos.line, rawInt pos.col, .ref c]))) c (CodeO c q)
theorem more_ext {P c : Addr} {ps : Array Value} {pos : Pos} {q : Str} (hP : H P = some (.tbl ps)) (nC : H c = none) : ExtN H (moreH H P c ps pos q) := by
  intro b o e n
  have h1 : b ≠ c := fun z => by rw [z, nC] at e; cases e
  have h2 : b ≠ P := fun z => by rw [z, hP] at e; exact n ps (Option.some.inj e).symm
  unfold moreH
  rw [upd_ne h1, upd_ne h2]
  exact e
theorem more_tabs {T : List (Addr × Str)} {P c : Addr} {ps : Array Value} {pos : Pos} {q : Str} (hT : Tabs T H) (hP : H P = some (.tbl ps)) (ok : TriplesOk ps.toList) (nC : H c = none) (one : ∀ p ∈ T, p.1 = P → p.2 = q) : Tabs T (moreH H P c ps pos q) := by
  intro p hp
  have ex : ExtN H (moreH H P c ps pos q) := more_ext hP nC
  obtain ⟨rs, a1, a2, a3⟩ := hT p hp
  have old : ∀ {p' : Pos} {cv : Value}, codeAmong p' rs.toList = some cv → ∃ b, cv = .ref b ∧ moreH H P c ps pos q b = some (CodeO b p.2) := fun h => by
    obtain ⟨b, e1, e2⟩ := a3 _ _ h
    exact ⟨b, e1, ex _ _ e2 codeO_ne⟩
  rcases Classical.em (p.1 = P) with z | z
  · have zq := one p hp z
    rw [z, hP] at a1
    cases a1
    refine ⟨ps ++ #[rawInt pos.line, rawInt pos.col, .ref c], ?_, ?_, fun p' cv h => ?_⟩
    · rw [z]
      unfold moreH
      rw [upd_ne (ne_of_none hP nC), upd_same]
    · rw [Array.toList_append]
      exact PySem.TriplesOk_snoc _ _ _ _ ok
    · rw [Array.toList_append] at h
      rcases among_app _ ok h with h | h
      · exact old h
      · refine ⟨c, h, ?_⟩
        rw [zq]
        exact upd_same
  · refine ⟨rs, ?_, a2, fun p' cv h => old h⟩
    unfold moreH
    rw [upd_ne (ne_of_none a1 nC), upd_ne z]
    exact a1
/-- a lambda is made and known from then on -/
theorem lam_kept {T : List (Addr × Str)} {c P : Addr} {pos : Pos} {E : Value → Shared → Prop} {Q : Value → Shared → Prop} (I : Inv X pins σ H s) (TB : TabB X.base X.mg c P) (hcode : X.env.code = .ref c) (hm : (P, lamQ X) ∈ T) (one : ∀ p ∈ T, p.1 = P → p.2 = lamQ X)
    (hT : Tabs T H) (hdef : defaultsOf params X.env = ([], [])) (hfree : ∀ y ∈ scope.names, y.2 = .free → ∃ c, X.env.cells.lookup y.1 = some c)
    (h : ∀ (f c' : Addr) (pm ctv : Value) (H1 : Hp) (s' : Shared), ExtN H H1 → Tabs T H1 → H1 f = none → H1 c' = some (CodeO c' (lamQ X)) → Inv X pins σ (upd H1 f (.frz (lamO X params body scope pm c' ctv) anyU)) s' → Q (.ref f) s') :
    wpAny (model X.prog X.w) X.A (eval (.Lambda params body scope pos) X.env) Q E s := by
  obtain ⟨ps, hP, ok, tells⟩ := hT _ hm
  have bP : s.heap.BuiltinsAt X.mg P := TB.bm.keeps I.bk
  have gP : s.heap.get? P = some { cls := .none, data := .fields ps } := I.hok P _ hP
  have gl := I.mod.glob.keeps I.bk
  have cd := TB.code.keeps I.bk
  have laid : ∀ {H1 : Hp} {h' : Heap} {pm ctv : Value} {c' : Addr} {tk tk' : Nat}, Inv X pins σ H1 { s with heap := h', toks := tk } → Inv X pins σ (upd H1 h'.objs.size (.frz (lamO X params body scope pm c' ctv) anyU)) { s with heap := h'.push (lamO X params body scope pm c' ctv), toks := tk' } ∧ H1 h'.objs.size = none := fun {H1 h' pm ctv c' tk tk'} J =>
    ⟨J.laid (t' := tk') (fun b u e => Heap.get?_push_of_some _ e) (Nat.le_refl _) (any_ok (Heap.get?_push_size _ rfl)), J.hok.fresh (Nat.le_refl _)⟩
  refine PySem.W.kla_eval hdef ?_
  rcases hc : codeAmong pos ps.toList with _ | cv
  · refine PySem.W.kla_makeFunction (closure_ok hfree) I.ok.glob gl hcode cd gP ok hc TB.gP bP fun c' ctv h' tk keeps new lt rec_ tab => ?_
    obtain ⟨b, oc, vs, t, z, hoc, hd, hv⟩ := rec_
    cases z
    have nC : H c' = none := I.hok.fresh new
    have J := inv_table (t' := tk) (q := lamQ X) (more := #[rawInt pos.line, rawInt pos.col, .ref c']) I hP keeps tab new ⟨oc, vs, t, hoc, hd, hv⟩
    have L := laid (pm := (X.mg "__name__").getD .none) (ctv := ctv) (c' := c') (tk' := tk) J
    exact h _ c' _ ctv _ _ (more_ext hP nC) (more_tabs hT hP ok nC one) L.2 upd_same L.1
  · obtain ⟨c', rfl, known⟩ := tells pos cv hc
    refine PySem.W.kla_makeFunctionHit (closure_ok hfree) I.ok.glob gl hcode cd gP ok hc bP fun ctv h' tk keeps size => ?_
    have L := laid (pm := (X.mg "__name__").getD .none) (ctv := ctv) (c' := c') (tk' := tk) (I.kept (t' := s.toks) keeps)
    exact h _ c' _ ctv H _ (ExtN.refl H) hT L.2 known L.1
end
/-! ### a comprehension whose element may lean on the def's own state -/
/-- as tLc, the turns counted, no test -/
def tLcI (wi : TI) (g : TG) (te : TE) (vs : List Nat) : TE := fun σ H Q => wi σ H fun J H1 => ∀ D, H1 D = none → ∃ (n : Nat) (Z : Nat → Hp → Prop), Z 0 (upd H1 D (.lst [])) ∧ (∀ H2, Z n H2 → J.stop n H2 ∧ Q (.ref D) H2) ∧
  ∀ i H2, i < n → Z i H2 → J.go i H2 ∧ ∀ x H3, J.yld i H2 x H3 → g x (wipe σ vs) H3 fun σ4 H4 => wipe σ4 vs = wipe σ vs ∧ te σ4 H4 fun y H5 => ∃ acc, H5 D = some (.lst acc) ∧ acc.length < sizeLine ∧ Z (i + 1) (upd H5 D (.lst (acc ++ [y])))
section
variable {X : Cx}
theorem pe_lcI {elt tg iter : Expr} {scope : Scope} {own : List (Str × Nat)} {pos : Pos} {wi : TI} {g : TG} {te : L2.St → TE} (calm : X.calm = true) (nd : X.N.Nodup) (hi : PI X tg iter wi) (ok : BlkOk X.N X.env.scope scope own)
    (hg : ∀ (s : Shared) (H : Hp) (C : Addr) (cl : List (Str × Addr)) (fp : List Addr), PG (X.blk s H scope (compEnvC scope cl C X.env) fp) tg g)
    (he : ∀ (σ : L2.St) (pins : List (Addr × Obj)) (s : Shared) (H : Hp) (C : Addr) (cl : List (Str × Addr)) (fp : List Addr), Inv X pins σ H s → (∀ b ∈ fp, FpOk X pins H b) → PE (X.blk s H scope (compEnvC scope cl C X.env) fp) elt (te σ))
    (hs : ∀ x, foldedSetIterable iter X.env x = pure x := by intro _; rfl) : PE X (.ListComp elt [⟨tg, iter, [], 0⟩] scope pos) (fun σ => tLcI wi g (te σ) (own.map (·.2)) σ) := by
  refine ⟨fun pins s σ H Q I h => ?_⟩
  have clos : ∀ y ∈ scope.names, y.2 = .free → ∃ c, X.env.cells.lookup y.1 = some c := fun y hy e => (ok.free y hy e).elim (fun k => I.ok.has _ (.inl k)) fun k => I.ok.has _ (.inr k)
  rw [eval_ListComp]
  refine wpAny_comprehension_free rfl hs (closure_ok clos) ok.kind (fun y hy e => by rw [ok.uniq y hy, e]) (thn (hi.run pins s σ H _ I h) fun xv s1 hx => thn hx fun itv s2 hp => ?_)
  obtain ⟨it, fp, tn, J, H2, rfl, I2, T, t2, f2, turns⟩ := hp
  refine wpAny_newObj_type (newEnv_comp ?_) (by show 0 ≤ sizeLine; decide)
  -- the new list
  have DN : H2 s2.heap.objs.size = none := I2.hok.fresh (Nat.le_refl _)
  obtain ⟨n, Z, z0, zn, zi⟩ := turns _ DN
  have push : ∀ b o, s2.heap.get? b = some o → (s2.heap.push { cls := .type "list", data := .seq ([] : List Value).toArray }).get? b = some o := fun b o e => Heap.get?_push_of_some _ e
  have ID := I2.laid (t' := s2.toks) (o := .lst []) push (Nat.le_refl _) ⟨Nat.zero_le _, [], 0, .nil, Heap.get?_push_size _ rfl⟩
  have fpD : ∀ b ∈ fp, FpOk X pins (upd H2 s2.heap.objs.size (.lst [])) b ∧ b < (s2.heap.push { cls := .type "list", data := .seq ([] : List Value).toArray }).objs.size := fun b hb => by
    obtain ⟨o, e, _⟩ := T.obj _ _ t2 b hb
    have lt := Heap.lt_size e
    exact ⟨⟨by rw [upd_ne (Nat.ne_of_lt lt)]; exact (f2 b hb).1, (f2 b hb).2⟩, Heap.lt_size (push b o e)⟩
  have tD := T.keep 0 _ _ t2 fun b _ o e => push b o e
  obtain ⟨D, hD⟩ : ∃ D, D = s2.heap.objs.size := ⟨_, rfl⟩
  obtain ⟨sD, eD⟩ : ∃ sD, sD = ({ s2 with heap := s2.heap.push { cls := .type "list", data := .seq ([] : List Value).toArray } } : Shared) := ⟨_, rfl⟩
  have hDs : sD.heap = s2.heap.push { cls := .type "list", data := .seq ([] : List Value).toArray } := by rw [eD]
  rw [← hDs] at fpD tD
  rw [show ({ s2 with heap := s2.heap.push { cls := .type "list", data := .seq ([] : List Value).toArray }, toks := s2.toks } : Shared) = sD from eD.symm] at ID
  rw [← hD] at ID fpD z0 zn zi
  generalize upd H2 D (.lst []) = HD at *
  have IB := block_start ID ok nd fpD
  have pg := hg sD HD sD.heap.objs.size (cellsFrom (sD.heap.objs.size + 1) scope.names (cloFrom X.env.cells scope.names [])) fp
  have pe := he σ pins sD HD sD.heap.objs.size (cellsFrom (sD.heap.objs.size + 1) scope.names (cloFrom X.env.cells scope.names [])) fp ID fun b hb => (fpD b hb).1
  rw [← eD, ← hD]
  show codeAny _ _ (.compStart (.ListComp elt [⟨tg, iter, [], 0⟩] scope pos) 0 (.ref it) (.ref D) (compEnvC scope (cellsFrom (sD.heap.objs.size + 1) scope.names (cloFrom X.env.cells scope.names [])) sD.heap.objs.size X.env)) (compPost (model X.prog X.w) X.A X.xe none (EP X pins σ Q) (.ref D) sD.heap.objs.size) { sD with heap := pushCells (sD.heap.push { cls := .type "dict", data := .dict #[] }) scope.names }
  obtain ⟨ce, hce⟩ : ∃ ce, ce = compEnvC scope (cellsFrom (sD.heap.objs.size + 1) scope.names (cloFrom X.env.cells scope.names [])) sD.heap.objs.size X.env := ⟨_, rfl⟩
  have Lce : ce.locals = sD.heap.objs.size := by rw [hce]; rfl
  rw [← hce] at IB pg pe ⊢
  have tB := T.keep 0 _ (pushCells (sD.heap.push { cls := .type "dict", data := .dict #[] }) scope.names) tD fun b _ o e => pushCells_keeps _ _ _ _ (Heap.get?_push_of_some _ e)
  generalize hsB : ({ sD with heap := pushCells (sD.heap.push { cls := .type "dict", data := .dict #[] }) scope.names } : Shared) = sB at IB ⊢
  have tB : tn 0 sB.heap := by rw [← hsB]; exact tB
  -- the iterator's objects within the block
  have still : ∀ {σ' : L2.St} {H' : Hp} {s' : Shared}, Inv (X.blk sD HD scope ce fp) [] σ' H' s' → (∀ b ∈ fp, H' b = none) → ∀ b ∈ fp, FpOk (X.blk sD HD scope ce fp) [] H' b := fun J' no b hb => by
    have ob := J'.ok
    exact ⟨no b hb, (ob.exf b hb).1, ob.exfs b hb, .inl hb, (ob.exf b hb).2, fun p hp => nomatch hp⟩
  have ends : ∀ {H' : Hp} {s' : Shared} {σ' : L2.St}, Inv (X.blk sD HD scope ce fp) [] σ' H' s' → Q (.ref D) H' → compPost (model X.prog X.w) X.A X.xe none (EP X pins σ Q) (.ref D) sD.heap.objs.size (.ok .next) s' := fun {H' s' σ'} J' q => by
    have back : Inv X pins σ H' s' := ID.call' (ch := fp) J'.os J'.base J'.hok J'.bare fun b hb => ⟨(fpD b hb).1.2.2.2.1, (fpD b hb).1.2.1, (fpD b hb).1.2.2.2.2.1, (fpD b hb).1.2.2.2.2.2⟩
    have fr : H' ce.locals = none := J'.free
    obtain ⟨m, ns, _⟩ := J'.loc
    have ns : s'.heap.Ns ce.locals m := ns
    rw [Lce] at fr ns
    obtain ⟨g0, g1, g2, g3, g4, g5⟩ := ID.fpOk (Nat.le_refl _) fr
    exact ⟨m, ns, fun h'' same => ⟨.ref D, H', back.turned (t' := s'.toks) (fun b o hb e => (same.2 b hb).trans e) g0 g1 g3 g4 g5, rfl, q⟩⟩
  have loop : codeAny (model X.prog X.w) X.A (.compLoop (.ListComp elt [⟨tg, iter, [], 0⟩] scope pos) 0 (.ref it) (.ref D) ce) (compPost (model X.prog X.w) X.A X.xe none (EP X pins σ Q) (.ref D) sD.heap.objs.size) sB := by
    refine compLoop_any (fun m s' => ∃ i H', i + m = n ∧ Inv (X.blk sD HD scope ce fp) [] (wipe σ (own.map (·.2))) H' s' ∧ tn i s'.heap ∧ (∀ b ∈ fp, H' b = none) ∧ Z i H') ?_ n ⟨0, HD, Nat.zero_add n, IB, tB, fun b hb => (fpD b hb).1.1, z0⟩
    rintro m s' ⟨i, H', sum, J', ti, no, zz⟩
    rcases Nat.eq_zero_or_pos m with rfl | pos_m
    · -- all told
      obtain rfl : i = n := sum
      obtain ⟨stop, q⟩ := zn H' zz
      refine thnF (T.done (X.blk sD HD scope ce fp) rfl rfl rfl calm i [] s' _ H' (fun _ _ => False) J' (still J' no) ti stop) fun r s6 ⟨hr, J6⟩ => ?_
      subst hr
      exact ends J6 q
    · obtain ⟨go, step⟩ := zi i H' (by omega) zz
      refine thnF (T.item (X.blk sD HD scope ce fp) rfl rfl rfl calm i [] s' _ H' (fun _ _ => False) J' (still J' no) ti go) fun r s6 ⟨u, hr, q6⟩ => ?_
      subst hr
      refine thnF q6 fun _ s7 ⟨x, H7, J7, rx, yx, t7, no7⟩ => ?_
      have P7 := J7.pinned (still J7 no7) (T.obj _ _ t7)
      refine thnF (pg.run _ s7 _ H7 x u _ P7 rx (step x H7 yx)) fun _ s8 ⟨σ8, H8, J8, w8, q8⟩ => ?_
      refine thnF ((pts_nil (X := X.blk sD HD scope ce fp)).run _ s8 σ8 H8 (fun b H => b = true ∧ H = H8) J8 ⟨rfl, rfl⟩) fun b s9 ⟨H9, J9, hb, eH⟩ => ?_
      subst hb
      subst eH
      simp only [if_true]
      refine thnF (pe.run _ s9 σ8 H9 _ J9 q8) fun y s10 ⟨yv, H10, J10, ry, acc, hacc, room, z10⟩ => ?_
      refine app_ok (X := X.blk sD HD scope ce fp) J10 hacc room ry fun s11 J11 => ⟨m - 1, by omega, i + 1, _, by omega, (J11.unpinned (pins := [])).weak ?_ (fun j v e => ?_), T.keep _ _ _ t7 fun b hb o e => ?_, fun b hb => ?_, z10⟩
      · rw [← w8, wipe_length]
      · rw [← w8] at e
        exact (wipe_some e).1
      · exact (J11.pin (b, o) (List.mem_append_right _ (List.mem_append_right _ (mem_pinsAt hb e)))).1
      · obtain ⟨o, e, _⟩ := T.obj _ _ t7 b hb
        exact (J11.pin (b, o) (List.mem_append_right _ (List.mem_append_right _ (mem_pinsAt hb e)))).2.1
  exact codeAny_compStart_list loop (T.self X.A 0 _ _ _ tB loop)
end
/-! ### a lambda of the list is told -/
section
variable {X : Cx} {pins : List (Addr × Obj)} {σ : L2.St} {H : Hp} {s : Shared} {params : Arguments} {body : Expr} {scope : Scope}
/-- what is known of a lambda's reading -/
structure LamRd (X : Cx) (kb : Nat) (params : Arguments) (body : Expr) (scope : Scope) (t : XK → TE) : Prop where
  L : LamS X.env.scope scope
  bind : ∀ (q : Str) (cl : List (Str × Addr)) (pm cv ctv : Value), bindArgs (PySem.W.kla_fn "<lambda>" q params body scope cl pm cv ctv) ⟨[], []⟩ = pure []
  body : ∀ (A : Around) (outer : List Env) (s : Shared) (H : Hp) (E : XK) (f c' : Addr), Room kb (A.deeper (lamEnv X scope s.heap.objs.size f c')) → PE (lamCx X A outer s H E scope f c') body (t E)
/-- the lambda at f -/
def LamAt (X : Cx) (kb : Nat) (f : Addr) (H : Hp) (t : XK → TE) : Prop := ∃ (params : Arguments) (body : Expr) (scope : Scope) (pm : Value) (c' : Addr) (ctv : Value), LamRd X kb params body scope t ∧ H f = some (.frz (lamO X params body scope pm c' ctv) anyU) ∧ H c' = some (CodeO c' (lamQ X))
end
end
section
variable [Wtp] [Tbl]
open LamX
/-! ## lambdas kept in a list: read by data -/
section
variable {K : Frg} {H H' : Hp} {m m' : Mp} {n n' : Nat}
theorem ObAt.noext {a : Addr} {o : Ob} (h : ObAt K H m n a o) (φ : Heap → Prop) : H a ≠ some (.ext φ) := fun z => by
  cases o with
  | lst xs => obtain ⟨vs, e, _⟩ := h; rw [z] at e; cases e
  | dct kvs => obtain ⟨vs, e, _⟩ := h; rw [z] at e; cases e
  | dtt kvs => obtain ⟨vs, e, _⟩ := h; rw [z] at e; cases e
  | lkd kvs =>
    cases (show Rp K H (Off m n) (.ref a) (.dict kvs) from h) with
    | dic h1 _ => rw [z] at h1; cases h1
    | dit h1 _ => rw [z] at h1; cases h1
  | lkl xs => obtain ⟨o, vs, h1, _⟩ := h; rw [z] at h1; cases h1
theorem Sim.noext {st : Sto} (S : Sim K H m st) {c : Addr} {φ : Heap → Prop} (h : H c = some (.ext φ)) : ∀ i, i < st.length → m.ix i ≠ c := fun i hi e => by
  have q := S.ob i _ (List.getElem?_eq_getElem hi)
  rw [e] at q
  exact q.noext φ h
theorem Fol.away (f : Fol m n H m' n' H') {a : Addr} (h : Nn H a) (o : ∀ i, i < n → m.ix i ≠ a) : ∀ i, i < n' → m'.ix i ≠ a := fun i hi e => by
  by_cases q : i < n
  · exact o i q (by rw [← f.old i q]; exact e)
  · exact f.new i (by omega) hi (by rw [e]; exact h)
theorem LamAt.fol {X : Cx} {kb : Nat} {f : Addr} {t : XK → TE} {st : Sto} (h : LamAt X kb f H t) (S : Sim K H m st) (g : Fol m st.length H m' n' H') : LamAt X kb f H' t := by
  obtain ⟨params, body, scope, pm, c', ctv, Rd, hf, hc⟩ := h
  exact ⟨params, body, scope, pm, c', ctv, Rd, g.frz _ _ _ hf, g.rest _ _ (fun ps z => codeO_ne ps z) hc (S.noext hc)⟩
end
/-- a lambda's reading, by its data -/
abbrev rdT (X : Cx) (cl : En → Sto → Rs Wv) : XK → TE := fun E => tE X (fun c d _ H => E c d H) cl
/-- the list of lambdas at L -/
structure LamsAt (X : Cx) (kb : Nat) (L : Addr) (H : Hp) (fs : List Addr) (cls : List (En → Sto → Rs Wv)) : Prop where
  at' : H L = some (.lst (fs.map V.ref))
  len : fs.length = cls.length
  it : ∀ (i : Nat) f cl, fs[i]? = some f → cls[i]? = some cl → LamAt X kb f H (rdT X cl)
theorem LamsAt.fol {X : Cx} {kb : Nat} {L : Addr} {H H' : Hp} {fs : List Addr} {cls : List (En → Sto → Rs Wv)} {K : Frg} {m m' : Mp} {n' : Nat} {st : Sto} (h : LamsAt X kb L H fs cls) (S : Sim K H m st) (o : ∀ i, i < st.length → m.ix i ≠ L) (g : Fol m st.length H m' n' H') : LamsAt X kb L H' fs cls :=
  ⟨g.rest _ _ nt_lst h.at' o, h.len, fun i f cl e1 e2 => (h.it i f cl e1 e2).fol S g⟩
def goK (T : Option Str) (fl : Xc → Option PyData) (env : En) : List (En → Sto → Rs Wv) → List PyData → Sto → Rs (List PyData)
  | [], acc, st => .ok acc st
  | cl :: r, acc, st => match saidR T fl st.length (cl env st) with
    | .ok (.d y) st2 => goK T fl env r (acc ++ [y]) st2
    | _ => .no
/-- all are told, one by one -/
def eLams (T : Option Str) (fl : Xc → Option PyData) (cls : List (En → Sto → Rs Wv)) : En → Sto → Rs Wv := fun env st => (goK T fl env cls [] st).bind fun ys st2 => .ok (.d (.list ys)) st2
@[simp] theorem goK_nil (T : Option Str) (fl : Xc → Option PyData) (env : En) (acc : List PyData) (st : Sto) : goK T fl env [] acc st = .ok acc st := rfl
theorem goK_cons {T : Option Str} {fl : Xc → Option PyData} {env : En} {cl : En → Sto → Rs Wv} {r : List (En → Sto → Rs Wv)} {acc : List PyData} {st st2 : Sto} {y : PyData} (h : saidR T fl st.length (cl env st) = .ok (.d y) st2) : goK T fl env (cl :: r) acc st = goK T fl env r (acc ++ [y]) st2 := by
  rw [goK, h]
section
variable {M : Md} {X : Cx} {B : Tb} {k kf kb nN : Nat} {x q : Str} {T : Option Str} {fl : Xc → Option PyData} {cb : Addr → Str → Option Addr → En → Sto → SR} {ok : Str → Addr → Prop} {σ : L2.St} {H : Hp} {m : Mp} {env : En} {st : Sto} {cl : En → Sto → Rs Wv}
/-- what the def makes of one of them -/
theorem said_tt {f CS : Addr} {o : Obj} {u : HO} {Q : VK} (e1 : X.prog = M.P) (e2 : X.w = M.w) (e3 : X.K = M.K) (e4 : X.mg = M.mg) (e5 : X.base = M.base)
    (s9 : ∀ (xn : Str) (C : Addr), M.mg xn = some (.ref C) → ok xn C → PySem.W.exmOne M.K (.ref C) (.ref CS) = some true)
    (fl' : ∀ (e : Xc) (y : PyData), fl e = some y → ∃ C, M.mg e.name = some (.ref C) ∧ ok e.name C ∧ ∀ (ea : Addr) (p : Option (Addr × List (Str × PyData))) (st : Sto), (e.fs = [] ∧ p = none ∨ ∃ dd, p = some (dd, e.fs)) → mkF 1 nN (cb ea e.name (p.map (·.1))) [.x ea e.name p] st = .ok (.d y) st)
    (S1 : Sim X.K H m st) (R : EnvR X.K H m st.length env σ) (hf : H f = some (.frz o u)) (hp : ∀ y st', saidR T fl st.length (cl env st) = .ok (.d y) st' → (Rs.ok (Wv.d y) st').post (okE X m st.length H Q) fun _ _ => False) (hno : ∃ y st', saidR T fl st.length (cl env st) = .ok (.d y) st') :
    TTsaid M T nN cb ok CS (fun E H' Q' => H' f = some (.frz o u) ∧ rdT X cl E σ H' Q') H Q := by
  obtain ⟨P, w, K, mg, base⟩ := M
  obtain ⟨rfl, rfl, rfl, rfl, rfl⟩ : X.prog = P ∧ X.w = w ∧ X.K = K ∧ X.mg = mg ∧ X.base = base := ⟨e1, e2, e3, e4, e5⟩
  refine ⟨hf, m, env, st, S1, R, ?_⟩
  obtain ⟨y, st1, hy⟩ := hno
  have hp := hp y st1 hy
  cases ec : cl env st with
  | no => rw [ec] at hy; cases hy
  | ok w st' =>
    rw [ec] at hy
    unfold saidR at hy
    simp only at hy
    split at hy
    · rename_i z ez
      cases hy
      intro v H' m' f1 S' r
      have tl : (st'.take st.length).length = st.length := by rw [List.length_take]; have := f1.le; omega
      have ry := rl_frz S' f1.le r ez
      have f2 : Fol m st.length H m' (st'.take st.length).length H' := by rw [tl]; exact f1.back
      cases T with
      | none => exact hp v H' m' f2 (S'.take f1.le) (by rw [tl]; exact ry)
      | some t =>
        refine ⟨Nat.le_trans (by omega) line_lim, fun p np => ?_⟩
        have g := grow_upd (o := .tup [.str t, v]) np
        refine hp _ _ m' (f2.trans (.same g)) ((S'.take f1.le).grow g) ?_
        rw [tl]
        have f3 : Fol m' st.length H' m' st.length (upd H' p (.tup [.str t, v])) := .same g
        exact .tup (.inl upd_same) (.cons (.str t) (.cons (ry.mv f3.kp) .nil))
    · cases hy
  | ex e' st' =>
    rw [ec] at hy
    unfold saidR at hy
    simp only at hy
    split at hy
    · rename_i z ez
      cases hy
      obtain ⟨C, hC, hok, hrun⟩ := fl' e' _ ez
      intro cls d H' m' f1 S' r
      have tl : (st'.take st.length).length = st.length := by rw [List.length_take]; have := f1.le; omega
      obtain ⟨⟨C2, hC2, rfl⟩, hfld⟩ := r
      have eC : C = C2 := by
        have hC2' : X.mg e'.name = some (.ref C2) := hC2
        rw [show X.mg e'.name = some (.ref C) from hC] at hC2'
        cases hC2'
        rfl
      subst eC
      refine ⟨s9 _ _ hC hok, fun ea na => ?_⟩
      have key : ∀ p : Option (Addr × List (Str × PyData)), p.map (·.1) = d → (e'.fs = [] ∧ p = none ∨ ∃ dd, p = some (dd, e'.fs)) → (∀ q, p = some q → XdAt X.K H' m' (st'.take st.length).length q.1 q.2) → flP ⟨X.prog, X.w, X.K, X.mg, X.base⟩ nN cb ok (.ref C) d ea H' Q := fun p h1 h2 h3 => by
        refine ⟨m', st'.take st.length, e'.name, C, p, rfl, hC, hok, S'.take f1.le, h3, ?_⟩
        rw [← h1, hrun ea p _ h2]
        intro v H2 m2 f2 S2 r2
        refine hp v H2 m2 ?_ S2 r2
        rw [tl] at f2 ⊢
        exact f1.back.trans f2
      rcases hfld with ⟨z1, z2⟩ | ⟨dd, z1, fs, y1, y2, y3, y4⟩
      · exact key none z2.symm (.inl ⟨z1, rfl⟩) fun q z => nomatch z
      · refine key (some (dd, e'.fs)) z1.symm (.inr ⟨dd, rfl⟩) fun q z => ?_
        cases z
        rw [tl]
        exact ⟨fs, y1, y2, y3.mv (.le f1.le), off_le f1.le y4⟩
    · cases hy
theorem kp_done {Hc : Hp} {m2 : Mp} {n2 : Nat} {D : Addr} : Kp X.K Hc (Off m2 n2) Hc (Off (m2.done D) n2) := ⟨fun _ _ h => h, fun _ _ _ h => h, fun a o _ h z => ⟨h, off_done a z⟩⟩
end
end
section
variable [Wtp] [Tbl]
open LamX
/-! ## lambdas kept in a list: the statements -/
section
variable {M : Md} {X : Cx} {B : Tb} {k kf kb nN : Nat} {x q : Str} {T : Option Str} {fl : Xc → Option PyData} {cb : Addr → Str → Option Addr → En → Sto → SR} {ok : Str → Addr → Prop} {cls : List (En → Sto → Rs Wv)} {cl : En → Sto → Rs Wv} {W : WX} {pos pos' spos p p1 p2 p3 p4 : Pos}
/-! ### a lambda made -/
def tLamN (X : Cx) (kb : Nat) (cl : En → Sto → Rs Wv) : TE := fun _ H Q => Tabs Tbl.T H ∧ ∀ (f : Addr) (H1 : Hp) (ob : Obj), ExtN H H1 → Tabs Tbl.T H1 → H1 f = none → LamAt X kb f (upd H1 f (.frz ob anyU)) (rdT X cl) → Q (.ref f) (upd H1 f (.frz ob anyU))
/-- a lambda whose reading is known -/
structure LamD (X : Cx) (kb : Nat) (lam : Expr) (cl : En → Sto → Rs Wv) : Prop where
  pe : PE X lam (tLamN X kb cl)
theorem lamd_ok {params : Arguments} {body : Expr} {scope : Scope} {lpos : Pos} (c : Cxt M X B k) (hlq : B.lq = some q) (us : List Nat) (gs : List Str) (hL : lamB B us gs scope = true) (hb : ∀ X' : Cx, Cxt M X' (B.lam us gs) kb → DE X' body cl)
    (hdef : defaultsOf params X.env = ([], []) := by rfl) (hbind : ∀ (q : Str) (cl : List (Str × Addr)) (pm cv ctv : Value), bindArgs (PySem.W.kla_fn "<lambda>" q params body scope cl pm cv ctv) ⟨[], []⟩ = pure [] := by intros; rfl) : LamD X kb (.Lambda params body scope lpos) cl := by
  obtain ⟨P, w, K, mg, base⟩ := M
  obtain ⟨rfl, rfl, rfl, rfl, rfl⟩ : X.prog = P ∧ X.w = w ∧ X.K = K ∧ X.mg = mg ∧ X.base = base := ⟨c.hP, c.hw, c.hK, c.mg, c.hb⟩
  obtain ⟨hq, cc, PP, l1, l2, l3, l4⟩ := c.lam q hlq
  have L := lam_s c hL
  have Rd : LamRd X kb params body scope (rdT X cl) := ⟨L, hbind, fun A outer s H E f c' hr => (hb _ (lam_cxt c us gs hL hr)).pe _ (takes_of rfl rfl rfl rfl)⟩
  refine ⟨⟨fun pins s σ H Q I ⟨hT, h⟩ => lam_kept (T := Tbl.T) I l4 l1 (by rw [lamQ, hq]; exact l2) (by rw [lamQ, hq]; exact l3) hT hdef (L.has I.ok) fun f c' pm ctv H1 s' eN T1 nf hc I1 => ⟨.ref f, _, I1, rfl, h f H1 _ eN T1 nf ?_⟩⟩⟩
  exact ⟨params, body, scope, pm, c', ctv, Rd, upd_same, by rw [upd_ne (fun z => by rw [z, nf] at hc; cases hc)]; exact hc⟩
/-! ### the statements -/
theorem EnvR.forget {K : Frg} {H : Hp} {m : Mp} {n : Nat} {env : En} {σ : L2.St} (h : EnvR K H m n env σ) (j : Nat) (v : V) : EnvR K H m n (env.set j none) (σ.set j (some v)) := by
  refine ⟨by simp [h.len], fun i w e => ?_⟩
  by_cases z : j = i
  · subst z
    by_cases l : j < env.length
    · rw [List.getElem?_set_self l] at e; cases e
    · rw [List.getElem?_eq_none (by simpa using l)] at e; cases e
  · rw [List.getElem?_set_ne z] at e
    rw [List.getElem?_set_ne z]
    exact h.at' i w e
/-- slot j holds the list -/
def sLm (j : Nat) (c : En → Sto → SR) : En → Sto → SR := fun env st => if j < env.length then c (env.set j none) st else .no
theorem size1 : 1 ≤ sizeLine := Nat.le_trans (by omega) line_lim
end
end
section
variable [Wtp] [Tbl]
open LamX
/-! ## lambdas handed out by a def that is through: its cells stay -/
structure Past (Y : Cx) (τ : L2.St) (H : Hp) (h : Heap) : Prop where
  ok : Y.Ok
  len : τ.length = Y.N.length
  cell : ∀ y c, Y.env.cells.lookup y = some c → H c = none ∧ ∃ v, h.IsCell c v
  val : ∀ (i : Nat) y v, Y.N[i]? = some y → τ[i]? = some (some v) → Y.env.scope.names.lookup y = some .cell ∨ Y.env.scope.names.lookup y = some .free → ∃ u c, L2.RelV v u ∧ Y.env.cells.lookup y = some c ∧ h.IsCell c (some u)
section
variable {Y X : Cx} {pins : List (Addr × Obj)} {τ σ : L2.St} {H H' : Hp} {s : Shared} {h h' : Heap}
theorem past_of (I : Inv Y pins τ H s) : Past Y τ H s.heap := by
  refine ⟨I.ok, I.len, fun y c e => ⟨I.freeC y c e, I.cell y c e⟩, fun i y v e1 e2 k => ?_⟩
  obtain ⟨mm, _, see⟩ := I.loc
  obtain ⟨u, ru, lo⟩ := see i y v e1 e2 (k.elim (fun z => .inr (.inl z)) fun z => .inr (.inr z))
  rcases lo with ⟨z, _⟩ | ⟨_, c, e3, ic⟩
  · have z : Y.env.scope.names.lookup y = some .local := z
    rcases k with k | k <;> rw [k] at z <;> cases z
  · exact ⟨u, c, ru, e3, ic⟩
theorem Past.on (P : Past Y τ H h) {fs : List Addr} (un : Un fs [] H H' h h') : Past Y τ H' h' := by
  have mv : ∀ {c : Addr} {v : Option Value}, H c = none → h.IsCell c v → h'.IsCell c v := fun {c v} n ⟨o, ho, hd⟩ => by
    obtain ⟨sl, q⟩ := un.any ho n List.not_mem_nil
    exact ⟨_, q, hd⟩
  refine ⟨P.ok, P.len, fun y c e => ?_, fun i y v e1 e2 k => ?_⟩
  · obtain ⟨n, v, ic⟩ := P.cell y c e
    refine ⟨?_, v, mv n ic⟩
    obtain ⟨o, ho, _⟩ := ic
    exact un.free c o ho n List.not_mem_nil
  · obtain ⟨u, c, ru, e3, ic⟩ := P.val i y v e1 e2 k
    exact ⟨u, c, ru, e3, mv (P.cell y c e3).1 ic⟩
/-- the state at such a lambda's start -/
theorem past_start {A : Around} {outer : List Env} {E : XK} {scope : Scope} {f c' : Addr} {h1 : Heap} {tk : Nat} (P : Past Y τ H s.heap) (L : LamS Y.env.scope scope) (e0 : Env0 Y.prog Y.w Y.K Y.mg Y.base A outer s H)
    (hh : A.handled = none) (ns : h1.Ns s.heap.objs.size fun y => ([] : List (Str × Value)).reverse.lookup y) (up : ∀ b o, s.heap.get? b = some o → h1.get? b = some o) : Inv (lamCx Y A outer s H E scope f c') [] τ H { s with heap := h1, toks := tk } := by
  have clo := L.has P.ok
  have back : ∀ {y c}, (cloFrom Y.env.cells scope.names []).lookup y = some c → Y.env.cells.lookup y = some c := by
    intro y c e
    rcases cloFrom_mem (PySem.mem_of_lookup e) with z | ⟨z1, z2⟩
    · cases z
    · obtain ⟨d, hd⟩ := clo _ z1 rfl
      have hd : Y.env.cells.lookup y = some d := hd
      have : c = d := by rw [z2, hd] <;> rfl
      rw [this]; exact hd
  have forth : ∀ {y}, scope.names.lookup y = some .free → ∃ c, (cloFrom Y.env.cells scope.names []).lookup y = some c := by
    intro y hl
    have hm : (y, NameKind.free) ∈ scope.names := PySem.mem_of_lookup hl
    exact mem_lookup (cloFrom_has (cells := Y.env.cells) (acc := []) hm)
  have noex : ∀ b : Addr, b ∉ (lamCx Y A outer s H E scope f c').ex := fun b z => List.not_mem_nil (show b ∈ ([] : List Addr) from z)
  have okC : (lamCx Y A outer s H E scope f c').Ok := by
    refine ⟨e0.mod, L.kind, rfl, rfl, Nat.le_refl _, ?_, ?_, ?_, fun _ => hh, Around.frames_deeper e0.frames, .inr ⟨rfl, rfl⟩, fun b z => absurd z (noex b), e0.bs, e0.bsz, fun b _ _ => noex b, fun b z => absurd z (noex b), e0.funs, e0.frf⟩
    · intro y z c e1 e2
      exact P.ok.inj y z c (back e1) (back e2)
    · intro y hy
      rcases (show scope.names.lookup y = some .cell ∨ scope.names.lookup y = some .free from hy) with z | z
      · exact absurd rfl (L.own _ (PySem.mem_of_lookup z)).2
      · exact forth z
    · intro y c z _
      exact absurd (show false = true from z) Bool.false_ne_true
  refine ⟨okC, rfl, e0.bare, Un.kept up, ⟨_, ns, ?_⟩, ?_, e0.hok.fresh (Nat.le_refl _), ?_, fun q hq => absurd (show q ∈ ([] : List (Addr × Obj)) ++ [] from hq) (by simp), e0.hok.kept up, P.len⟩
  · intro i y v e1 e2 k
    rcases (show Vis scope y from k) with k | k | k
    · exact absurd rfl (L.own _ (PySem.mem_of_lookup k)).1
    · exact absurd rfl (L.own _ (PySem.mem_of_lookup k)).2
    · obtain ⟨u, c, ru, e3, ic⟩ := P.val i y v e1 e2 (L.free _ (PySem.mem_of_lookup k) rfl)
      obtain ⟨d, hd⟩ := forth k
      have := back hd
      rw [e3] at this
      cases this
      exact ⟨u, ru, .inr ⟨.inr k, c, hd, ic.keeps up⟩⟩
  · intro y c e
    obtain ⟨_, v, ic⟩ := P.cell y c (back e)
    exact ⟨v, ic.keeps up⟩
  · intro y c e
    exact (P.cell y c (back e)).1
end
section
variable {Y X : Cx} {pins : List (Addr × Obj)} {τ σ : L2.St} {H : Hp} {s : Shared} {params : Arguments} {body : Expr} {scope : Scope}
/-- x(), x such a lambda -/
theorem act_past {Pr : Program} {w : World} {K : Frg} {mg : Str → Option Value} {base : Heap} {A : Around} {stk : List Env} {Ng : List Str} {x a : Str} {sg : Scope} {g f c' : Addr} {cdg pm ctv : Value} {kb : Nat} {pn : List (Addr × Obj)} {xe : Value → Shared → Prop} {W : WX} {E : XK} {t : XK → TE} {p1 p2 : Pos}
    (y1 : Y.prog = Pr) (y2 : Y.w = w) (y3 : Y.K = K) (y4 : Y.mg = mg) (y5 : Y.base = base) (P : Past Y τ H s.heap) (Rd : LamRd Y kb params body scope t)
    (tk : Takes ((cxOf C8.CX0 Pr w K mg base Ng x sg g cdg A stk s H C8.E0).tr pn xe) W) (hW : ∀ cls d σ' H', E cls d H' → W cls d σ' H') (room : Room (kb + 1) (A.deeper (envOfC x sg s.heap.objs.size g cdg)))
    (hN : Ng[0]? = some a) (hv : Vis sg a) (hd : (a == ("__debug__" : Str)) = false) (hcd : (a == ("__classdict__" : Str)) = false) :
    PE ((cxOf C8.CX0 Pr w K mg base Ng x sg g cdg A stk s H C8.E0).tr pn xe) (.Call (.Name a p1) [] [] p2)
      (fun σZ HZ Q => σZ[0]? = some (some (.ref f)) ∧ HZ c' = some (CodeO c' (lamQ Y)) ∧ HZ f = some (.frz (lamO Y params body scope pm c' ctv) anyU) ∧ t E τ HZ Q) := by
  subst y1 y2 y3 y4 y5
  refine ⟨fun pinsZ sZ σZ HZ Q IZ hz => ?_⟩
  obtain ⟨hs, hc, hf, ht⟩ := hz
  have name := (pe_var (pos := p1) (i := 0) hN hv hd hcd).run pinsZ sZ σZ HZ (fun v H1 => v = .ref f ∧ H1 = HZ) IZ ⟨.ref f, hs, rfl, rfl⟩
  refine wpAny_Call_Name_kw (thn name fun u s1 hu => ?_)
  obtain ⟨v, H1, J, r1, ev, eH⟩ := hu
  subst ev eH
  obtain rfl : u = Value.ref f := r1
  have obj : s1.heap.get? f = some (lamO Y params body scope pm c' ctv) := (J.hok f _ hf).1
  obtain ⟨⟨oc, vs, tq, hoc, hdc, hvc⟩, _, _⟩ := J.hok c' _ hc
  have un : Un (frs stk) [] H H1 s.heap s1.heap := J.base
  have call : codeAny (model Y.prog Y.w) (A.deeper (envOfC x sg s.heap.objs.size g cdg)) (.call (.ref f) ⟨[], []⟩) (CR (L2.CX Y.prog Y.w) (envOfC x sg s.heap.objs.size g cdg :: stk) Y.prog Y.w H1 s1 Q E) s1 := by
    refine PySem.W.kla_callFunE room.depth obj rfl Rd.L.co Rd.L.gen rfl ⟨c', oc, vs, tq, rfl, hoc, hdc, hvc⟩ ?_
    rw [Rd.bind]
    refine wpAny_pure (wpAny_newFunctionEnv (fun y hy => (Rd.L.own y hy).2) (fun y hy => nomatch hy) (fun h1 ns same => ⟨J.nolimit.fresh _ same, ?_⟩) Rd.L.kind)
    have up : ∀ b o, s1.heap.get? b = some o → h1.get? b = some o := fun b o e => same.extBut b o (Nat.ne_of_lt (Heap.lt_size e)) (Heap.get?_push_of_some _ e)
    have begun := past_start (f := f) (c' := c') (E := E) (tk := s1.toks + ([] : List (Str × Value)).length) (P.on un) Rd.L J.env0 room.hd ns up
    have rd := (Rd.body _ _ s1 H1 E f c' (room.deeper _)).run [] _ _ H1 Q begun ht
    show codeAny _ _ (.expr body (lamEnv Y scope s1.heap.objs.size f c')) _ _
    refine PySem.W.kla_codeExpr (wpAny_mono rd (fun v s' hq => ?_) fun e s' hq => hq)
    obtain ⟨w', H', J', rv, q⟩ := hq
    exact ⟨w', H', J'.os, J'.bare, J'.base, J'.hok, rv, q⟩
  refine PySem.W.callWith_F0 ⟨_, _, _, _, obj⟩ (wpAny_call (codeAny_mono call fun r s' hq => ?_))
  match r, hq with
  | .error e, hq => exact passes_call tk hW pinsZ σZ H1 s1 e s' J hq
  | .ok (.ret u), hq => exact J.after hq
  | .ok .next, hq => exact False.elim hq
  | .ok .brk, hq => exact False.elim hq
  | .ok .cont, hq => exact False.elim hq
/-- x(v) in a block of a def, v one of the lambdas of Y -/
theorem pe_tellP {Ng : List Str} {x a v : Str} {sg scB : Scope} {g : Addr} {pg : Arguments} {bg : List Stmt} {dV kV doc pm cdv ct oc : Value} {an od : Option Addr} {osl : Array (Option Value)} {k j : Nat} {TT : (XK → Hp → VK → Prop) → Hp → VK → Prop} {p p2 pos : Pos} {ce : Env} {fp : List Addr}
    (y1 : Y.prog = X.prog) (y2 : Y.w = X.w) (y3 : Y.K = X.K) (y4 : Y.mg = X.mg) (y5 : Y.base = X.base) (P : Past Y τ X.H_0 X.s_0.heap) (hex : X.ex = [])
    (I3 : Inv X pins σ H s) (hfp : ∀ b ∈ fp, FpOk X pins H b) (hg : Gl (X.blk s H scB ce fp) x) (hm : X.mg x = some (.ref g)) (hk : PySem.W.keepIn X.K (.ref g) = true)
    (lk : X.K.lookup g = some ⟨oc, od, .func (PySem.W.fnOf x x pg bg sg dV kV doc pm an cdv ct), osl⟩) (hcg : PySem.W.codeIn X.K cdv x = true) (hb : L2.Binds X.K (PySem.W.fnOf x x pg bg sg dV kV doc pm an cdv ct) [a] []) (Sg : FnScope Ng [a] sg) (hNg : Ng[0]? = some a) (hva : Vis sg a)
    (hG : GivesTo X Ng x sg g cdv bg a (lamQ Y) TT) (room : Room (k + 2) X.A) (hj : X.N[j]? = some v) (hv : Vis ce.scope v)
    (hdb : (x == ("__debug__" : Str)) = false) (hd : (a == ("__debug__" : Str)) = false) (hcd : (a == ("__classdict__" : Str)) = false) (hdv : (v == ("__debug__" : Str)) = false) (hcv : (v == ("__classdict__" : Str)) = false) :
    PE (X.blk s H scB ce fp) (.Call (.Name x p) [.Name v p2] [] pos) (fun σY HY Q => ∃ (f : Addr) (t : XK → TE), σY[j]? = some (some (.ref f)) ∧ LamAt Y k f HY t ∧ ∀ ob, HY f = some ob → TT (fun E H' Q' => H' f = some ob ∧ t E τ H' Q') HY Q) := by
  refine ⟨fun pinsY sY σY HY Q IY hy => ?_⟩
  obtain ⟨f, t, hs, la, ht⟩ := hy
  obtain ⟨params, body, scope, pm', c', ctv, Rd, hf, hc⟩ := la
  have name := (pe_var (X := X.blk s H scB ce fp) (pos := p2) (i := j) hj hv hdv hcv).run pinsY sY σY HY (fun w H1 => w = .ref f ∧ H1 = HY) IY ⟨.ref f, hs, rfl, rfl⟩
  refine wpAny_Call_Name_kw (ld_glob IY hg hm (PySem.W.callWith_K (h₀ := X.base) IY.ok.mod.kin hk ?_ (by rfl) (by rfl)) hdb)
  show wpAny _ _ (spliced ((false, eval (.Name v p2) ce) :: backTo pos (starEach [] ce))) _ _ sY
  refine Calls.spliced_cons (thn name fun u s1 hu => Calls.spliced_nil ?_)
  obtain ⟨w, H1, J, r1, ew, eH⟩ := hu
  subst ew eH
  obtain rfl : u = Value.ref f := r1
  have mine : Inv X pins σ H1 s1 := I3.call' (ch := fp) J.os J.base J.hok J.bare fun b hb => by
    obtain ⟨z1, z2, z3, z4, z5, z6⟩ := hfp b hb
    exact ⟨z4, z2, z5, z6⟩
  have un := mine.base
  rw [hex] at un
  have P1 := P.on un
  have told : codeAny (model X.prog X.w) X.A (.call (.ref g) ⟨[.ref f], []⟩) (CR C8.CX0 X.stack X.prog X.w H1 s1 Q C8.E0) s1 := by
    refine run_ofS (N := Ng) (ps := [a]) (us := [.ref f]) (vs := [.ref f]) lk hcg Sg room J.env0 (hb s1 [.ref f] J.kIn rfl) (.cons rfl .nil) rfl fun room' => ?_
    obtain ⟨t', ht', hq'⟩ := hG f c' s1 H1 Q (fun E H' Q' => H' f = some (.frz (lamO Y params body scope pm' c' ctv) anyU) ∧ t E τ H' Q') (fun W pn xe E p1 p2 tk hW => act_past y1 y2 y3 y4 y5 P1 Rd tk hW room' hNg hva hd hcd) hc (ht _ hf)
    exact ⟨t', ht'.nox, hq'⟩
  refine ⟨J.kIn, wpAny_call (codeAny_mono told fun r s2 hq => ?_)⟩
  match r, hq with
  | .error e, hq => exact False.elim (show False from hq)
  | .ok (.ret u), hq => exact J.after hq
  | .ok .next, hq => exact False.elim hq
  | .ok .brk, hq => exact False.elim hq
  | .ok .cont, hq => exact False.elim hq
end
end
section
variable [Wtp] [Tbl]
open LamX
/-! ## a def that makes lambdas and hands out their list -/
/-- a block that ends by a return: what is handed out, told with the names -/
structure LQ (X : Cx) (es : List Stmt) (T : (V → L2.St → Hp → Prop) → L2.St → Hp → Prop) : Prop where
  run : ∀ (pins : List (Addr × Obj)) (s : Shared) (σ : L2.St) (H : Hp) (D : V → L2.St → Hp → Prop), Inv X pins σ H s → T D σ H →
    wpAny (model X.prog X.w) X.A (execs es X.env) (fun fl s' => ∃ u x σ' H', fl = .ret u ∧ Inv X pins σ' H' s' ∧ L2.RelV x u ∧ D x σ' H') X.xe s
section
variable {X : Cx} {es : List Stmt} {T T' : (V → L2.St → Hp → Prop) → L2.St → Hp → Prop}
theorem LQ.of (h : LQ X es T) (f : ∀ D σ H, T' D σ H → T D σ H) : LQ X es T' := ⟨fun pins s σ H D I q => h.run pins s σ H D I (f _ _ _ q)⟩
theorem lq_cons {st : Stmt} {t : TS} (h1 : PS X st t) (h2 : LQ X es T) : LQ X (st :: es) (fun D σ H => t { nx := fun σ H => T D σ H, rt := fun _ _ => False } σ H) := by
  refine ⟨fun pins s σ H D I q => wpAny_execs_cons (thn (h1.run pins s σ H _ I q) fun fl s1 z => ?_)⟩
  match fl, z with
  | .next, ⟨σ', H', J, q⟩ => exact h2.run pins s1 σ' H' D J q
  | .ret u, ⟨_, _, _, _, _, q⟩ => exact False.elim q
  | .brk, ⟨_, _, _, q⟩ => exact False.elim q
  | .cont, ⟨_, _, _, q⟩ => exact False.elim q
theorem lq_ret {e : Expr} {te : TE} {pos : Pos} (h : PE X e te) : LQ X [.Return (some e) pos] (fun D σ H => te σ H fun x H1 => D x σ H1) :=
  ⟨fun pins s σ H D I q => wpAny_execs_cons (wpAny_Return_some (thn (h.run pins s σ H _ I q) fun v s1 ⟨x, H1, J, r, q1⟩ => ⟨v, x, σ, H1, rfl, J, r, q1⟩))⟩
end
def tQ (X : Cx) (kb j : Nat) (cls cls' : List (En → Sto → Rs Wv)) : (V → L2.St → Hp → Prop) → L2.St → Hp → Prop := fun D σ H => ∃ m0 n0 H0 m env st L fs, Fol m0 n0 H0 m st.length H ∧ ¬ Nn H0 L ∧ Sim X.K H m st ∧ EnvR X.K H0 m0 n0 env σ ∧ σ[j]? = some (some (V.ref L)) ∧ m.F L ∧ LamsAt X kb L H fs cls ∧
  ∀ m' H' fs', Fol m0 n0 H0 m' st.length H' → Sim X.K H' m' st → m'.F L → LamsAt X kb L H' fs' cls' → D (.ref L) σ H'
structure LC (X : Cx) (kb j : Nat) (cls cls' : List (En → Sto → Rs Wv)) (es : List Stmt) : Prop where
  lq : LQ X es (tQ X kb j cls cls')
section
variable {M : Md} {X : Cx} {B : Tb} {k kb : Nat} {cls cls' : List (En → Sto → Rs Wv)} {cl : En → Sto → Rs Wv} {pos spos p p1 p2 : Pos}
theorem lc_ret {j : Nat} {calls : Str} (cx : Cxt M X B k) (hj : B.N[j]? = some calls) (hu : j ∈ B.us) (d1 : (calls == ("__debug__" : Str)) = false := by decide) (d2 : (calls == ("__classdict__" : Str)) = false := by decide) : LC X kb j cls cls [.Return (some (.Name calls p)) spos] :=
  ⟨(lq_ret (pe_var (i := j) (by rw [cx.hN]; exact hj) (cx.vis j hu _ hj) d1 d2)).of fun D σ H ⟨m0, n0, H0, m, env, st, L, fs, F0, nL, S, R, hjv, FL, A, hD⟩ => ⟨.ref L, hjv, hD m H fs F0 S FL A⟩⟩
theorem lc_app {j : Nat} {calls : Str} {lam : Expr} {es : List Stmt} {apos : Pos} (cx : Cxt M X B k) (hj : B.N[j]? = some calls) (hu : j ∈ B.us) (h1 : LamD X kb lam cl) (hn : cls.length ≤ 1000) (h2 : LC X kb j (cls ++ [cl]) cls' es) (d1 : (calls == ("__debug__" : Str)) = false := by decide) (d2 : (calls == ("__classdict__" : Str)) = false := by decide)
    (hbase : attributeBase (.Name calls p1) "append" X.env (eval (.Name calls p1) X.env) = eval (.Name calls p1) X.env := by rfl)
    (hfew : ((backTo pos (starEach [lam] X.env)).all (fun x => !x.1) && (backToKw pos (keywordEach [] X.env)).all (fun x => x.1.isSome)
      && decide ([lam].length + ([] : List Keyword).length + (if ([] : List Keyword).isEmpty then 0 else 1) < 30)) = true := by rfl)
    (hline : (apos.endLine == pos.line) = true := by rfl) (hs : starEach [lam] X.env = (false, eval lam X.env) :: starEach [] X.env := by rfl) (hsw : swapsWith (.Call (.Attribute (.Name calls p1) "append" apos) [lam] [] pos) none spos.line X.env = pure false := by rfl) :
    LC X kb j cls cls' (.Expr (.Call (.Attribute (.Name calls p1) "append" apos) [lam] [] pos) spos :: es) := by
  refine ⟨(lq_cons (ps_expr (pe_bm PySem.F.plainAttrs_list PySem.F.slot_list_append PySem.F.type_list_append mt_append (pe_var (i := j) (by rw [cx.hN]; exact hj) (cx.vis j hu _ hj) d1 d2) (pa_cons h1.pe pa_nil hs) hbase hfew hline hs rfl) hsw) h2.lq).of fun D σ H ⟨m0, n0, H0, m, env, st, L, fs, F0, nL, S, R, hjv, FL, A, hD⟩ => ?_⟩
  refine ⟨.ref L, hjv, .inl ⟨rfl, _, .inl (.inl A.at')⟩, S.tb, fun f H1 ob eN T1 nf la => ?_⟩
  have f1 : Fol m st.length H m st.length H1 := .ext eN
  have g2 := grow_upd (o := .frz ob anyU) nf
  have f12 : Fol m st.length H m st.length (upd H1 f (.frz ob anyU)) := f1.trans (.same g2)
  have S2 := (S.ext eN T1).grow g2
  have A2 := A.fol S (fun i hi e => S.fi i hi (by rw [e]; exact FL)) f12
  refine ⟨L, _, .ref f, rfl, rfl, A2.at', Nat.lt_of_lt_of_le (show _ < 1001 by rw [List.length_map, A2.len]; omega) (Nat.le_trans (by omega) line_lim), ?_⟩
  have keep : ∀ {g : Addr} {t : XK → TE}, LamAt X kb g (upd H1 f (.frz ob anyU)) t → LamAt X kb g (upd (upd H1 f (.frz ob anyU)) L (.lst (fs.map V.ref ++ [.ref f]))) t := fun ⟨params, body, scope, pm, c', ctv, Rd, hf, hc⟩ =>
    ⟨params, body, scope, pm, c', ctv, Rd, by rw [upd_ne (fun e => by rw [e, A2.at'] at hf; cases hf)]; exact hf, by rw [upd_ne (fun e => by rw [e, A2.at'] at hc; cases hc)]; exact hc⟩
  refine ⟨m0, n0, H0, m, env, st, L, fs ++ [f], (F0.trans f12).updD nL, nL, S2.push FL A2.at', R, hjv, FL, ⟨by rw [upd_same, List.map_append]; rfl, by simp [A2.len], fun i g cl' e1 e2 => ?_⟩, hD⟩
  by_cases z : i < fs.length
  · rw [List.getElem?_append_left z] at e1
    rw [List.getElem?_append_left (by rw [← A2.len]; exact z)] at e2
    exact keep (A2.it i g cl' e1 e2)
  · rw [List.getElem?_append_right (by omega)] at e1
    rw [List.getElem?_append_right (by rw [← A2.len]; omega)] at e2
    have i0 : i - fs.length = 0 := by
      rcases Nat.eq_zero_or_pos (i - fs.length) with h | h
      · exact h
      · rw [List.getElem?_eq_none (by simp only [List.length_singleton]; omega)] at e1; cases e1
    rw [i0] at e1
    rw [← A2.len, i0] at e2
    cases e1
    cases e2
    exact keep la
def tQ0 (X : Cx) (kb j : Nat) (cls' : List (En → Sto → Rs Wv)) : (V → L2.St → Hp → Prop) → L2.St → Hp → Prop := fun D σ H => ∃ m env st, Sim X.K H m st ∧ EnvR X.K H m st.length env σ ∧ j < env.length ∧
  ∀ m' H' L fs' σ', Fol m st.length H m' st.length H' → Sim X.K H' m' st → m'.F L → LamsAt X kb L H' fs' cls' → EnvR X.K H m st.length (env.set j none) σ' → D (.ref L) σ' H'
theorem lc_start {j : Nat} {calls : Str} {lam : Expr} {es : List Stmt} (cx : Cxt M X B k) (hj : B.N[j]? = some calls) (hl : j ∈ B.ls) (h1 : LamD X kb lam cl) (h2 : LC X kb j [cl] cls' es)
    (hs1 : starEach [lam] X.env = (false, eval lam X.env) :: starEach [] X.env := by rfl) (hs : swapsWith (.List [lam] p2) (some (.Name calls p1)) spos.line X.env = pure false := by rfl) : LQ X (.Assign [.Name calls p1] (.List [lam] p2) spos :: es) (tQ0 X kb j cls') := by
  obtain ⟨l1, l2⟩ := cx.loc j hl calls hj
  refine (lq_cons (ps_set (by rw [cx.hN]; exact cx.nd) (by rw [cx.hN]; exact hj) l1 (pe_lst (pa_cons h1.pe pa_nil hs1)) hs l2) h2.lq).of fun D σ H ⟨m, env, st, S, R, lt, hD⟩ => ?_
  refine ⟨S.tb, fun f H1 ob eN T1 nf la => ⟨size1, fun q nq => ?_⟩⟩
  have f1 : Fol m st.length H m st.length H1 := .ext eN
  have g2 := grow_upd (o := .frz ob anyU) nf
  obtain ⟨S3, f3⟩ := ((S.ext eN T1).grow g2).start (D := q) (o := .lst [.ref f]) nq
  have f12 := f1.trans (.same g2)
  have fq : f ≠ q := fun e => by rw [← e, upd_same] at nq; cases nq
  have R1 := R.forget j (.ref q)
  obtain ⟨params, body, scope, pm, c', ctv, Rd, hf, hc⟩ := la
  refine ⟨m, st.length, H, m.with q, env.set j none, st, q, [f], f12.trans f3, fun z => nn_no nq (f12.dom q z), S3, R1, ?_, .inr rfl, ⟨upd_same, rfl, fun i g cl' e1 e2 => ?_⟩, fun m' H' fs' a b c d => hD m' H' q fs' _ a b c d R1⟩
  · exact List.getElem?_set_self (by rw [← R.len]; exact lt)
  · cases i with
    | succ i => simp at e1
    | zero =>
      cases e1
      cases e2
      exact ⟨params, body, scope, pm, c', ctv, Rd, by rw [upd_ne fq]; exact hf, by rw [upd_ne (fun e => by rw [e, nq] at hc; cases hc)]; exact hc⟩
end
/-- such a def, called -/
structure CallsT (M : Md) (gd : Bool) (k kb np : Nat) (f : Addr) (fd : FuncData) (ps : List Str) (cls : List (En → Sto → Rs Wv)) : Prop where
  ar : ps.length = np
  run : ∀ (A : Around) (outer : List Env) (s : Shared) (H : Hp) (us : List Value) (vs : List V) (ws : List Wv) (m : Mp) (st : Sto), Room k A → (gd = true → A.guards = some []) → Env0 M.P M.w M.K M.mg M.base A outer s H → BindsTo s fd ⟨us, []⟩ (ps.zip us) → Vals vs us → Sim M.K H m st → RWs M.K H m st.length vs ws → ws.length = np →
    codeAny (model M.P M.w) A (.call (.ref f) ⟨us, []⟩) (fun r s' => ∃ (Y : Cx) (τ : L2.St) (L : Addr) (H' : Hp) (m' : Mp) (fs : List Addr), r = .ok (.ret (.ref L)) ∧ (Y.prog = M.P ∧ Y.w = M.w ∧ Y.K = M.K ∧ Y.mg = M.mg ∧ Y.base = M.base) ∧ CE outer M.P M.w H s (fun v Hx => v = .ref L ∧ Hx = H') (.ref L) s' ∧ Past Y τ H' s'.heap ∧
      Fol m st.length H m' st.length H' ∧ Sim M.K H' m' st ∧ m'.F L ∧ LamsAt Y kb L H' fs cls ∧ EnvR M.K H m st.length (ws.map some ++ [none]) τ) s
theorem no_cx {P : Program} {w : World} {outer : List Env} {H : Hp} {s : Shared} {e : Value} {s' : Shared} (h : L2.CX P w outer H s (fun _ _ _ => False) e s') : False := by
  obtain ⟨_, _, _, _, _, _, _, _, _, _, _, _, z⟩ := h
  exact z
theorem cxt_of {M : Md} {B : Tb} {k : Nat} {f : Addr} {qual : Str} {scope : Scope} {cdv : Value} {ps : List Str} {A : Around} {outer : List Env} {s : Shared} {H : Hp} {E : XK} (SC : FnScope B.N ps scope) (hT : fnT B scope = true) (room : Room k (A.deeper (envOfC qual scope s.heap.objs.size f cdv))) (guard : B.gd = true → A.guards = some [])
    (hlam : ∀ q, B.lq = some q → (qual ++ ".<locals>.") ++ "<lambda>" = q ∧ LamC M.mg M.base q cdv) : Cxt M (cxOf (L2.CX M.P M.w) M.P M.w M.K M.mg M.base B.N qual scope f cdv A outer s H E) B k := by
  unfold fnT at hT
  simp only [Bool.and_eq_true, List.all_eq_true, decide_eq_true_eq] at hT
  obtain ⟨t1, t2, t3, t4, t5, t6⟩ := hT
  refine ⟨rfl, rfl, rfl, rfl, rfl, rfl, SC.nd, rfl, fun _ => SC.kind, room, guard, fun i hi x hx => ?_, fun i hi x hx => ?_, fun i hi x hx => ?_, fun j x hx => kdG_gl (t4 x (List.mem_of_getElem? hx)), fun x hx => kdC_cap (t5 x hx), fun _ => passes_of rfl, hlam, fun _ => ⟨rfl, rfl⟩⟩
  · have q := t1 i hi
    rw [hx] at q
    exact kdV_vis q
  · have q := t2 i hi
    rw [hx] at q
    exact ⟨kdL_loc q, .inl rfl⟩
  · have q := t3 i hi
    rw [hx] at q
    exact of_decide_eq_true q
theorem rws_at {K : Frg} {H : Hp} {m : Mp} {n : Nat} : ∀ {vs : List V} {ws : List Wv} {i : Nat} {w : Wv}, RWs K H m n vs ws → ws[i]? = some w → ∃ v, vs[i]? = some v ∧ RW K H m n v w
  | _, _, i, w, .nil, e => by simp at e
  | _, _, 0, w, .cons r _, e => by simp at e; subst e; exact ⟨_, rfl, r⟩
  | _, _, i + 1, w, .cons _ t, e => by simpa using rws_at t (i := i) (by simpa using e)
theorem start_env {M : Md} {N : List Str} {H : Hp} {m : Mp} {n : Nat} {vs : List V} {ws : List Wv} (rw0 : RWs M.K H m n vs ws) (hl : N.length = ws.length + 1) : EnvR M.K H m n (ws.map some ++ [none]) (L2.start N vs) := by
  refine ⟨?_, fun i w hw => ?_⟩
  · unfold L2.start; simp [rw0.len, hl]
  · have hi : i < ws.length := by
      rcases Nat.lt_or_ge i ws.length with z | z
      · exact z
      · rw [List.getElem?_append_right (by simpa using z)] at hw
        have := List.mem_of_getElem? hw
        simp at this
    rw [List.getElem?_append_left (by simpa using hi)] at hw
    obtain ⟨v, hv, r⟩ := rws_at rw0 (i := i) (w := w) (by simpa [hi] using hw)
    refine ⟨v, ?_, r⟩
    unfold L2.start
    rw [List.getElem?_append_left (by have := (List.getElem?_eq_some_iff.mp hv).1; simpa using this)]
    simp [hv]
theorem calls_of {M : Md} {B : Tb} {k kb : Nat} {f : Addr} {name qual : Str} {params : Arguments} {body : List Stmt} {scope : Scope} {dV kV doc pm cdv ct oc : Value} {an od : Option Addr} {osl : Array (Option Value)} {ps : List Str} {np : Nat} {cls : List (En → Sto → Rs Wv)}
    (hf : M.K.lookup f = some ⟨oc, od, .func (PySem.W.fnOf name qual params body scope dV kV doc pm an cdv ct), osl⟩) (hcode : PySem.W.codeIn M.K cdv qual = true) (SC : FnScope B.N ps scope) (hT : fnT B scope = true) (hnp : ps.length = np) (hnN : B.N.length = np + 1)
    (hb : ∀ X : Cx, Cxt M X B k → LQ X body (tQ0 X kb np cls)) (hlam : ∀ q, B.lq = some q → (qual ++ ".<locals>.") ++ "<lambda>" = q ∧ LamC M.mg M.base q cdv) : CallsT M B.gd (k + 1) kb np f (PySem.W.fnOf name qual params body scope dV kV doc pm an cdv ct) ps cls := by
  refine ⟨hnp, fun A outer s H us vs ws m st room guard e0 bound rv S rw0 hwl => ?_⟩
  have hvl : vs.length = ps.length := by rw [rw0.len, hwl, hnp]
  have inK : M.K.In s.heap := e0.mod.kin.keeps fun b o e => (e0.bs b o e).1
  have noLim : s.heap.NoLimit := e0.mod.nolimit.keeps fun b o e => (e0.bs b o e).1
  have kinds : ∀ y ∈ ps.zip us, scope.names.lookup y.1 = some .local ∨ (scope.names.lookup y.1 = some .cell ∧ ((cellsFrom (s.heap.objs.size + 1) scope.names []).lookup y.1).isSome = true) := by
    rintro ⟨y, v⟩ hy
    exact (SC.par y (List.of_mem_zip hy).1).imp id fun q => ⟨q, PySem.W.cellsFrom_some _ _ _ (.inl q)⟩
  refine codeAny_call_function room.depth (inK _ _ hf) rfl SC.co SC.gen rfl (PySem.W.codeRec_of inK hcode) (bound _ _ _ _ (wpAny_newFunctionEnv_cells SC.kind kinds fun env henv s1 x => ?_))
  subst henv
  refine ⟨noLim.keeps x.toInCall.keep, codeAny_func ?_⟩
  have hI : Inv (cxOf (L2.CX M.P M.w) M.P M.w M.K M.mg M.base B.N qual scope f cdv A outer s H fun _ _ _ => False) [] (L2.start B.N vs) H s1 := inv_start SC room.hd e0 hvl rv x
  have hC := cxt_of (M := M) (f := f) (E := fun _ _ _ => False) (outer := outer) (s := s) (H := H) SC hT (room.deeper _) guard hlam
  have hR : EnvR M.K H m st.length (ws.map some ++ [none]) (L2.start B.N vs) := start_env rw0 (by rw [hnN, hwl])
  have go := (hb _ hC).run [] s1 (L2.start B.N vs) H (fun v τ H' => ∃ (L : Addr) (m' : Mp) (fs : List Addr), v = .ref L ∧ Fol m st.length H m' st.length H' ∧ Sim M.K H' m' st ∧ m'.F L ∧ LamsAt (cxOf (L2.CX M.P M.w) M.P M.w M.K M.mg M.base B.N qual scope f cdv A outer s H fun _ _ _ => False) kb L H' fs cls ∧ EnvR M.K H m st.length (ws.map some ++ [none]) τ) hI
    ⟨m, _, st, S, hR, by simp [hwl], fun m' H' L fs' σ' a b c d e => ⟨L, m', fs', rfl, a, b, c, d, by
      rw [show (ws.map some ++ [none] : En).set np none = ws.map some ++ [none] from by rw [List.set_append_right _ _ (by simp [hwl])]; simp [hwl]] at e
      exact e⟩⟩
  refine wpAny_mono go (fun fl s' hs => ?_) fun e s' hs => wpAny_mono hs (fun _ s2 z => (no_cx z).elim) fun _ s2 z => (no_cx z).elim
  obtain ⟨u, x, τ, H', rfl, J, r, L, m', fs, rfl, a, b, c, d, e⟩ := hs
  obtain rfl : u = Value.ref L := r
  exact ⟨_, τ, L, H', m', fs, rfl, ⟨rfl, rfl, rfl, rfl, rfl⟩, ⟨.ref L, H', J.os, J.bare, J.base, J.hok, rfl, rfl, rfl⟩, past_of J, a, b, c, d, e⟩
end
section
variable [Wtp] [Tbl]
open LamX
/-! ## the def that tells the lambdas of another one -/
def tEL2 (X Y : Cx) (kb j : Nat) (cls : List (En → Sto → Rs Wv)) (τ : L2.St) (c : En → Sto → Rs Wv) : TE := fun σ H Q => ∃ m env st L fs, Sim X.K H m st ∧ EnvR X.K H m st.length env τ ∧ σ[j]? = some (some (V.ref L)) ∧ (∀ i, i < st.length → m.ix i ≠ L) ∧ LamsAt Y kb L H fs cls ∧ (c env st).post (okE X m st.length H Q) fun _ _ => False
section
variable {X Y : Cx} {kb : Nat} {T : Option Str} {fl : Xc → Option PyData} {σ τ : L2.St} {H : Hp}
theorem LamAt.upd2 {D : Addr} {o : HO} {f : Addr} {t : XK → TE} (h : LamAt Y kb f H t) (n1 : ∀ ob, H D = some (.frz ob anyU) → False) (n2 : H D = some (CodeO D (lamQ Y)) → False) : LamAt Y kb f (upd H D o) t := by
  obtain ⟨params, body, scope, pm, c', ctv, Rd, hf, hc⟩ := h
  exact ⟨params, body, scope, pm, c', ctv, Rd, by rw [upd_ne (fun e => n1 _ (e ▸ hf))]; exact hf, by rw [upd_ne (fun e => n2 (by rw [← e]; exact hc))]; exact hc⟩
theorem lams_data2 {j i : Nat} {cls : List (En → Sto → Rs Wv)} {vs : List Nat} {Q : VK} {TT : (XK → Hp → VK → Prop) → Hp → VK → Prop} (hi : i ∈ vs) (hn : cls.length ≤ 1000) (hl : i < σ.length)
    (tell : ∀ {cl : En → Sto → Rs Wv} {H : Hp} {m : Mp} {env : En} {st : Sto} {f : Addr} {ob : HO} {Q : VK}, Sim X.K H m st → EnvR X.K H m st.length env τ → H f = some ob → (∃ o u, ob = .frz o u) → (∀ y st', saidR T fl st.length (cl env st) = .ok (.d y) st' → (Rs.ok (Wv.d y) st').post (okE X m st.length H Q) fun _ _ => False) → (∃ y st', saidR T fl st.length (cl env st) = .ok (.d y) st') →
      TT (fun E H' Q' => H' f = some ob ∧ rdT Y cl E τ H' Q') H Q)
    (h : tEL2 X Y kb j cls τ (eLams T fl cls) σ H Q) :
    tLcI (iList X.K (tVar j)) (gName i) (fun σY HY Q => ∃ (f : Addr) (t : XK → TE), σY[i]? = some (some (V.ref f)) ∧ LamAt Y kb f HY t ∧ ∀ ob, HY f = some ob → TT (fun E H' Q' => H' f = some ob ∧ t E τ H' Q') HY Q) vs σ H Q := by
  obtain ⟨m, env, st, L, fs, S, R, hj, hL, A, hp⟩ := h
  unfold eLams at hp
  rw [Rs.post_bind] at hp
  have NL : Nn H L := ⟨_, A.at', nt_lst⟩
  refine ⟨.ref L, hj, L, rfl, ⟨_, .of A.at'⟩, fun D hD => ?_⟩
  have hD0 : ¬ Nn H D := nn_no hD
  obtain ⟨S1, f1⟩ := S.start (D := D) (o := .lst []) hD
  have LD : L ≠ D := fun e => by rw [← e, A.at'] at hD; cases hD
  have big : ∀ {n : Nat}, n ≤ cls.length → n < sizeLine := fun z => Nat.lt_of_lt_of_le (show _ < 1001 by omega) (Nat.le_trans (by omega) line_lim)
  refine ⟨cls.length, fun n Hc => ∃ m2 st2 acc us, Fol m st.length H (m2.done D) st2.length Hc ∧ Sim X.K Hc m2 st2 ∧ m2.F D ∧ Hc D = some (.lst us) ∧ RpA X.K Hc (Off m2 st2.length) us acc ∧ acc.length ≤ n ∧ (∀ i, i < st2.length → m2.ix i ≠ L) ∧ LamsAt Y kb L Hc fs cls ∧
    (goK T fl env (cls.drop n) acc st2).post (fun ys st' => (Rs.ok (Wv.d (.list ys)) st').post (okE X m st.length H Q) fun _ _ => False) (fun _ _ => False), ?_, fun Hc z => ?_, fun n Hc hlt z => ?_⟩
  · refine ⟨m.with D, st, [], [], f1.done hD0, S1, .inr rfl, upd_same, .nil, Nat.le_refl _, hL, ?_, hp⟩
    exact ⟨by rw [upd_ne LD]; exact A.at', A.len, fun i f cl e1 e2 => (A.it i f cl e1 e2).upd2 (fun _ z => by rw [hD] at z; cases z) (fun z => by rw [hD] at z; cases z)⟩
  · obtain ⟨m2, st2, acc, us, f2, S2, F2, hc2, r2, ha2, hl2, A2, q2⟩ := z
    rw [List.drop_length] at q2
    refine ⟨⟨_, .of A2.at', by rw [List.length_map, A2.len]; exact Nat.le_refl _⟩, ?_⟩
    exact q2 _ Hc (m2.done D) f2 (S2.sub rfl fun a z => z.1) (.lst (.inl ⟨hc2, fun i hi e => S2.fi i hi (by rw [show m2.ix i = D from e]; exact F2), fun z => z.2 rfl⟩) (r2.mv kp_done))
  · obtain ⟨m2, st2, acc, us, f2, S2, F2, hc2, r2, ha2, hl2, A2, q2⟩ := z
    have hfs : n < fs.length := by rw [A2.len]; exact hlt
    refine ⟨⟨_, V.ref fs[n], .of A2.at', by rw [List.getElem?_map, List.getElem?_eq_getElem hfs]; rfl⟩, fun x H3 yld => ?_⟩
    obtain ⟨rfl, ex⟩ := yld
    have ex := ex _ (.of A2.at')
    rw [List.getElem?_map, List.getElem?_eq_getElem hfs] at ex
    obtain rfl : V.ref fs[n] = x := Option.some.inj ex
    have bw : But vs (L2.wipe σ vs) ((L2.wipe σ vs).set i (some (V.ref fs[n]))) := .set hi
    refine ⟨bw.wipe fun _ h => h, fs[n], rdT Y cls[n], ?_, A2.it n _ _ (List.getElem?_eq_getElem hfs) (List.getElem?_eq_getElem hlt), fun ob hob => ?_⟩
    · exact List.getElem?_set_self (by rw [L2.wipe_length]; exact hl)
    · rw [List.drop_eq_getElem_cons hlt] at q2
      unfold goK at q2
      have fe : Fol m st.length H m2 st2.length H3 := f2.undone hD0
      split at q2
      · rename_i y5 st5 said
        have frz : ∃ o u, ob = .frz o u := by
          obtain ⟨_, _, _, _, _, _, _, hf, _⟩ := A2.it n _ _ (List.getElem?_eq_getElem hfs) (List.getElem?_eq_getElem hlt)
          rw [hob] at hf
          cases hf
          exact ⟨_, _, rfl⟩
        refine tell S2 (R.mv fe) hob frz (fun y st' e => ?_) ⟨_, _, said⟩
        rw [said] at e
        cases e
        intro v5 H5 m5 f5 S5 r5
        have nD : ∀ i, i < st2.length → m2.ix i ≠ D := fun i hi e => S2.fi i hi (e ▸ F2)
        have c5 : H5 D = some (.lst us) := f5.rest _ _ nt_lst hc2 nD
        have F5 : m5.F D := (f5.eF D ⟨_, hc2, nt_lst⟩).mpr F2
        have kp : Kp X.K H5 (Off m5 st5.length) (upd H5 D (.lst (us ++ [v5]))) (Off m5 st5.length) := .push F5 c5
        have A5 := A2.fol S2 hl2 f5
        refine ⟨us, c5, ?_, m5, st5, acc ++ [y5], us ++ [v5], (f2.trans (f5.done2 D)).updD hD0, S5.push F5 c5, F5, upd_same, ((r2.mv f5.kp).app (.cons r5 .nil)).mv kp, by simp; exact ha2, f5.away ⟨_, A2.at', nt_lst⟩ hl2, ?_, q2⟩
        · have := r2.len
          exact big (by omega)
        · exact ⟨by rw [upd_ne LD]; exact A5.at', A5.len, fun i f cl e1 e2 => (A5.it i f cl e1 e2).upd2 (fun _ z => by rw [c5] at z; cases z) (fun z => by rw [c5] at z; cases z)⟩
      · exact q2.elim
theorem okE_eq (h : Y.K = X.K) (m : Mp) (n : Nat) (H : Hp) (Q : VK) : okE Y m n H Q = okE X m n H Q := by
  unfold okE
  rw [h]
end
section
variable {M : Md} {X Y : Cx} {B : Tb} {k kf kb nN : Nat} {x : Str} {T : Option Str} {fl : Xc → Option PyData} {cb : Addr → Str → Option Addr → En → Sto → SR} {ok : Str → Addr → Prop} {cls : List (En → Sto → Rs Wv)} {τ : L2.St} {pos pos' spos p p1 p2 p3 p4 : Pos}
/-- [x(v) for v in calls], calls made elsewhere -/
theorem pe_lams2 {us ls : List Nat} {gs cs : List Str} {own : List (Str × Nat)} {scope : Scope} {i jc jg : Nat} {calls v : Str} (cx : Cxt M X B k) (S : SaidT M x kf nN T fl cb ok) (hb : blkT B us ls gs cs scope own = true) (hc : B.N[jc]? = some calls) (hcu : jc ∈ B.us) (hv : B.N[i]? = some v) (hiu : i ∈ us) (hil : i ∈ ls) (hio : i ∈ own.map (·.2))
    (hg : gs[jg]? = some x) (hk : kf + 2 ≤ k) (hk2 : kb + 2 ≤ k) (hn : cls.length ≤ 1000) (y : Y.prog = M.P ∧ Y.w = M.w ∧ Y.K = M.K ∧ Y.mg = M.mg ∧ Y.base = M.base) (P : Past Y τ X.H_0 X.s_0.heap) (hex : X.ex = [])
    (hdb : (x == ("__debug__" : Str)) = false) (dv1 : (v == ("__debug__" : Str)) = false) (dv2 : (v == ("__classdict__" : Str)) = false) (dc1 : (calls == ("__debug__" : Str)) = false) (dc2 : (calls == ("__classdict__" : Str)) = false)
    (hs : ∀ z, foldedSetIterable (.Name calls p4) X.env z = pure z := by intro _; rfl) : PE X (.ListComp (.Call (.Name x p) [.Name v p2] [] pos) [⟨.Name v p3, .Name calls p4, [], 0⟩] scope pos') (tEL2 X Y kb jc cls τ (eLams T fl cls)) := by
  obtain ⟨Pr, w, K, mg, base⟩ := M
  obtain ⟨rfl, rfl, rfl, rfl, rfl⟩ : X.prog = Pr ∧ X.w = w ∧ X.K = K ∧ X.mg = mg ∧ X.base = base := ⟨cx.hP, cx.hw, cx.hK, cx.mg, cx.hb⟩
  obtain ⟨y1, y2, y3, y4, y5⟩ := y
  have y3' : Y.K = X.K := y3
  obtain ⟨g, od, an, sl, oc, kV, dc, pm, cd, ct, pg, bg, sg, a, e, CS, s1, s2, s3, s4, s5, s6, s7, s8, s9⟩ := S.at'
  have va : Vis sg a := (s6.par a List.mem_cons_self).elim (fun z => .inl z) fun z => .inr (.inl z)
  have fl' := S.fl'
  have hN := cx.hN
  refine ⟨fun pins s σ H Q I h => ?_⟩
  have hi : i < σ.length := by
    rw [I.len, hN]
    exact (List.getElem?_eq_some_iff.mp hv).1
  refine (pe_lcI (te := fun _ σY HY Q => ∃ (f : Addr) (t : XK → TE), σY[i]? = some (some (V.ref f)) ∧ LamAt Y kb f HY t ∧ ∀ ob, HY f = some ob → TTsaid ⟨X.prog, X.w, X.K, X.mg, X.base⟩ T nN cb ok CS (fun E H' Q' => H' f = some ob ∧ t E τ H' Q') HY Q) cx.calm (by rw [hN]; exact cx.nd) (pi_list (pe_var (pos := p4) (by rw [hN]; exact hc) (cx.vis jc hcu _ hc) dc1 dc2)) (cx.blkOk hb) (fun s H C cl fp => ?_) (fun σ pins s H C cl fp I3 hfp => ?_) hs).run pins s σ H Q I
    (lams_data2 (T := T) (fl := fl) hio hn hi (fun {cl H m env st f ob Q} S1 R hf hob h1 h2 => ?_) h)
  · have c' := cx.blk hb s H C cl fp
    obtain ⟨l1, l2⟩ := c'.loc i hil v hv
    exact pg_name (by rw [c'.hN]; exact c'.nd) (by rw [c'.hN]; exact hv) l1 l2
  · have c' := cx.blk hb s H C cl fp
    exact pe_tellP y1 y2 y3 y4 y5 P hex I3 hfp (c'.gl jg x hg) s1 s4 s2 s3 s5 s6 rfl va (s8 X _ rfl rfl rfl rfl rfl (L2H.roomH_of (cx.room.mono hk))) (cx.room.mono hk2) (by rw [hN]; exact hv) (c'.vis i hiu v hv) hdb s7.1 s7.2 dv1 dv2
  · obtain ⟨o, u, rfl⟩ := hob
    refine said_tt (X := Y) (M := ⟨X.prog, X.w, X.K, X.mg, X.base⟩) y1 y2 y3 y4 y5 s9 fl' (by rw [y3']; exact S1) (by rw [y3']; exact R) hf (fun y st' e => ?_) h2
    rw [okE_eq y3']
    exact h1 y st' e
end
/-- such a def, called with the list -/
structure WordsT (M : Md) (gd : Bool) (k kb : Nat) (f : Addr) (fd : FuncData) (ps : List Str) (T : Option Str) (fl : Xc → Option PyData) : Prop where
  one : ps.length = 1
  run : ∀ (A : Around) (outer : List Env) (s : Shared) (H : Hp) (L : Addr) (cls : List (En → Sto → Rs Wv)) (Y : Cx) (τ : L2.St) (m : Mp) (st : Sto) (env : En) (fs : List Addr) (Q : VK), cls.length ≤ 1000 → Room k A → (gd = true → A.guards = some []) → Env0 M.P M.w M.K M.mg M.base A outer s H → BindsTo s fd ⟨[.ref L], []⟩ (ps.zip [.ref L]) →
    (Y.prog = M.P ∧ Y.w = M.w ∧ Y.K = M.K ∧ Y.mg = M.mg ∧ Y.base = M.base) → Past Y τ H s.heap → Sim M.K H m st → EnvR M.K H m st.length env τ → (∀ i, i < st.length → m.ix i ≠ L) → LamsAt Y kb L H fs cls →
    (eLams T fl cls env st).post (fun w st' => ∀ v H' m', Fol m st.length H m' st'.length H' → Sim M.K H' m' st' → RW M.K H' m' st'.length v w → Q v H') (fun _ _ => False) →
    codeAny (model M.P M.w) A (.call (.ref f) ⟨[.ref L], []⟩) (CR (L2.CX M.P M.w) outer M.P M.w H s Q fun _ _ _ => False) s
theorem words_of {M : Md} {B : Tb} {k kb : Nat} {f : Addr} {name qual : Str} {params : Arguments} {body : List Stmt} {scope : Scope} {dV kV doc pm cdv ct oc : Value} {an od : Option Addr} {osl : Array (Option Value)} {ps : List Str} {T : Option Str} {fl : Xc → Option PyData}
    (hf : M.K.lookup f = some ⟨oc, od, .func (PySem.W.fnOf name qual params body scope dV kV doc pm an cdv ct), osl⟩) (hcode : PySem.W.codeIn M.K cdv qual = true) (SC : FnScope B.N ps scope) (hT : fnT B scope = true) (hnp : ps.length = 1) (hlq : B.lq = none)
    (hb : ∀ (X Y : Cx) (τ : L2.St) (cls : List (En → Sto → Rs Wv)), Cxt M X B k → cls.length ≤ 1000 → (Y.prog = M.P ∧ Y.w = M.w ∧ Y.K = M.K ∧ Y.mg = M.mg ∧ Y.base = M.base) → Past Y τ X.H_0 X.s_0.heap → X.ex = [] → PSs X body (tRet (tEL2 X Y kb 0 cls τ (eLams T fl cls)))) :
    WordsT M B.gd (k + 1) kb f (PySem.W.fnOf name qual params body scope dV kV doc pm an cdv ct) ps T fl := by
  refine ⟨hnp, fun A outer s H L cls Y τ m st env fs Q hn room guard e0 bd y P S0 R hL LA hp => ?_⟩
  refine run_ofS (N := B.N) (ps := ps) (us := [.ref L]) (vs := [.ref L]) hf hcode SC room e0 bd (.cons rfl .nil) (by rw [hnp]; rfl) fun room' => ?_
  have hC := cxt_of (M := M) (f := f) (E := fun _ _ _ => False) (outer := outer) (s := s) (H := H) SC hT room' guard (fun q z => by rw [hlq] at z; cases z)
  refine ⟨_, hb _ Y τ cls hC hn y P rfl, ?_⟩
  refine ⟨m, env, st, L, fs, S0, R, ?_, hL, LA, hp⟩
  unfold L2.start
  rfl
theorem goK_post {T : Option Str} {fl : Xc → Option PyData} {env : En} {Q : List PyData → Sto → Prop} {E : Xc → Sto → Prop} : ∀ {cls : List (En → Sto → Rs Wv)} {acc : List PyData} {st : Sto}, (goK T fl env cls acc st).post Q E → (goK T fl env cls acc st).post Q fun _ _ => False
  | [], acc, st, h => h
  | cl :: r, acc, st, h => by
    unfold goK at h ⊢
    split at h
    · exact goK_post h
    · exact h
theorem eLams_post {T : Option Str} {fl : Xc → Option PyData} {env : En} {cls : List (En → Sto → Rs Wv)} {st : Sto} {Q : Wv → Sto → Prop} {E : Xc → Sto → Prop} (h : (eLams T fl cls env st).post Q E) : (eLams T fl cls env st).post Q fun _ _ => False := by
  unfold eLams at h ⊢
  rw [Rs.post_bind] at h ⊢
  exact Rs.post_mono (goK_post h) (fun _ _ q => q) fun _ _ q => q
noncomputable def eLamC (np : Nat) (cs : En → Sto → Rs (List Wv)) (T : Option Str) (fl : Xc → Option PyData) (cls : List (En → Sto → Rs Wv)) : En → Sto → Rs Wv := fun env st => (cs env st).bind fun ws st1 => if ws.length = np then eLams T fl cls (ws.map some ++ [none]) st1 else .no
@[simp] theorem x_lamC (np : Nat) (cs : En → Sto → Rs (List Wv)) (T : Option Str) (fl : Xc → Option PyData) (cls : List (En → Sto → Rs Wv)) (env : En) (st : Sto) : eLamC np cs T fl cls env st = (cs env st).bind fun ws st1 => if ws.length = np then eLams T fl cls (ws.map some ++ [none]) st1 else .no := rfl
section
variable {M : Md} {X : Cx} {B : Tb} {k kb np : Nat} {g1 g2 : Bool} {f1 f2 : Addr} {fd1 fd2 : FuncData} {ps1 ps2 : List Str} {T : Option Str} {fl : Xc → Option PyData} {cls : List (En → Sto → Rs Wv)} {x1 x2 : Str} {e : Expr} {es : List Expr} {cs : En → Sto → Rs (List Wv)} {p p1 pos pos1 : Pos}
/-- x2(x1(e, ..)): x1 makes the lambdas, x2 tells them -/
theorem de_lamC (c : Cxt M X B k) (F1 : CallsT M g1 k kb np f1 fd1 ps1 cls) (F2 : WordsT M g2 k kb f2 fd2 ps2 T fl) (hn : cls.length ≤ 1000) (j1 j2 : Nat) (hj1 : B.gs[j1]? = some x1) (hj2 : B.gs[j2]? = some x2) (hm1 : M.mg x1 = some (.ref f1)) (hm2 : M.mg x2 = some (.ref f2)) (hk1 : PySem.W.keepIn M.K (.ref f1) = true) (hk2 : PySem.W.keepIn M.K (.ref f2) = true)
    (hb1 : Binds M.K fd1 ps1 []) (hb2 : Binds M.K fd2 ps2 []) (ha : DA X (e :: es) cs) (hgd1 : g1 = true → B.gd = true) (hgd2 : g2 = true → B.gd = true) (hd1 : (x1 == ("__debug__" : Str)) = false := by decide) (hd2 : (x2 == ("__debug__" : Str)) = false := by decide)
    (he : starEach (e :: es) X.env = (false, eval e X.env) :: starEach es X.env := by rfl) (hpl : (backTo pos1 (starEach es X.env)).any (·.1) = false := by rfl) : DE X (.Call (.Name x2 p) [.Call (.Name x1 p1) (e :: es) [] pos1] [] pos) (eLamC np cs T fl cls) := by
  obtain ⟨Pr, w, K, mg, base⟩ := M
  obtain ⟨rfl, rfl, rfl, rfl, rfl⟩ : X.prog = Pr ∧ X.w = w ∧ X.K = K ∧ X.mg = mg ∧ X.base = base := ⟨c.hP, c.hw, c.hK, c.mg, c.hb⟩
  refine .mk' fun W pins σ H s m env st Q tk I S R hp => ?_
  unfold eLamC at hp
  rw [Rs.post_bind] at hp
  refine wpAny_Call_Name_kw (ld_glob I (c.gl j2 x2 hj2) hm2 (PySem.W.callWith_K (h₀ := X.base) I.ok.mod.kin hk2 ?_ (by rfl) (by rfl)) hd2)
  show wpAny _ _ (spliced ((false, eval (.Call (.Name x1 p1) (e :: es) [] pos1) X.env) :: backTo pos (starEach [] X.env))) _ _ s
  refine Calls.spliced_cons (wpAny_Call_Name_kw (ld_glob I (c.gl j1 x1 hj1) hm1 (PySem.W.callWith_K (h₀ := X.base) I.ok.mod.kin hk1 (ha.go tk I S R pos1 (Rs.post_mono hp (fun ws st1 q vs H1 m1 us s1 I1 rv fo1 S1 r1 => ⟨I1.kIn, ?_⟩) fun _ _ q => q)) he hpl) hd1))
  split at q
  · rename_i hwl
    have hl : us.length = ps1.length := by rw [← rv.length, r1.len, hwl, F1.ar]
    have bd := hb1 s1 us I1.kIn (by rw [List.append_nil]; exact hl)
    rw [List.append_nil] at bd
    refine wpAny_call (codeAny_mono (F1.run X.A X.stack s1 H1 us vs ws m1 st1 c.room (fun z => c.gu (hgd1 z)) I1.env0 bd rv S1 r1 hwl) fun r s2 hq => ?_)
    obtain ⟨Y, τ, L, H2, m2, fs, rfl, y, ce, P, fo2, S2, FL, LA, R2⟩ := hq
    obtain ⟨v, Hx, I2, rv2, rfl, rfl⟩ := I1.after ce
    refine Calls.spliced_nil ⟨I2.kIn, ?_⟩
    have bd2 := hb2 s2 [.ref L] I2.kIn (by rw [List.append_nil, F2.one]; rfl)
    rw [List.append_nil] at bd2
    refine wpAny_call (codeAny_mono (F2.run X.A X.stack s2 Hx L cls Y τ m2 st1 (ws.map some ++ [none]) fs (fun v H' => ∀ u s', Inv X pins σ H' s' → RelV v u → Q u s') hn c.room (fun z => c.gu (hgd2 z)) I2.env0 bd2 y P S2 (R2.mv fo2) (fun i hi e => S2.fi i hi (by rw [e]; exact FL)) LA (Rs.post_mono (eLams_post q) (fun w st3 q3 v H3 m3 f3 S3 r3 u s3 I3 rv3 => ?_) fun _ _ z => ?_)) fun r s3 hq => ?_)
    · exact q3 v H3 m3 u s3 I3 rv3 ((fo1.trans fo2).trans f3) S3 r3
    · exact False.elim z
    · match r, hq with
      | .error e, hq => exact (no_cx hq).elim
      | .ok (.ret u), hq =>
        obtain ⟨v, H3, I3, rv3, q3⟩ := I2.after hq
        exact q3 u s3 I3 rv3
      | .ok .next, hq => exact False.elim hq
      | .ok .brk, hq => exact False.elim hq
      | .ok .cont, hq => exact False.elim hq
  · exact q.elim
end
/-! ### by the module's names -/
theorem CallsT.mono {M : Md} {g : Bool} {j k kb np : Nat} {f : Addr} {fd : FuncData} {ps : List Str} {cls : List (En → Sto → Rs Wv)} (F : CallsT M g j kb np f fd ps cls) (h : j ≤ k) : CallsT M g k kb np f fd ps cls := ⟨F.ar, fun A outer s H us vs ws m st room => F.run A outer s H us vs ws m st (room.mono h)⟩
theorem WordsT.mono {M : Md} {g : Bool} {j k kb : Nat} {f : Addr} {fd : FuncData} {ps : List Str} {T : Option Str} {fl : Xc → Option PyData} (F : WordsT M g j kb f fd ps T fl) (h : j ≤ k) : WordsT M g k kb f fd ps T fl := ⟨F.one, fun A outer s H L cls Y τ m st env fs Q hn room => F.run A outer s H L cls Y τ m st env fs Q hn (room.mono h)⟩
def CallsF (M : Md) (g : Bool) (k kb np : Nat) (x : Str) (ps : List Str) (cls : List (En → Sto → Rs Wv)) : Prop := ∃ (f : Addr) (fd : FuncData), M.mg x = some (.ref f) ∧ PySem.W.keepIn M.K (.ref f) = true ∧ Binds M.K fd ps [] ∧ CallsT M g k kb np f fd ps cls
def WordsF (M : Md) (g : Bool) (k kb : Nat) (x : Str) (ps : List Str) (T : Option Str) (fl : Xc → Option PyData) : Prop := ∃ (f : Addr) (fd : FuncData), M.mg x = some (.ref f) ∧ PySem.W.keepIn M.K (.ref f) = true ∧ Binds M.K fd ps [] ∧ WordsT M g k kb f fd ps T fl
section
variable {M : Md} {B : Tb} {k kb : Nat} {x : Str}
theorem callsF_of {sf : Stmt} {ps : List Str} {np : Nat} {cls : List (En → Sto → Rs Wv)} (T : TopFn M x sf ps) (SC : FnScope B.N ps (defScope sf)) (hT : fnT B (defScope sf) = true) (hnp : ps.length = np) (hnN : B.N.length = np + 1)
    (hb : ∀ X : Cx, Cxt M X B k → LQ X (defBody sf) (tQ0 X kb np cls)) (hlam : ∀ q, B.lq = some q → LamT M x q) : CallsF M B.gd (k + 1) kb np x ps cls := by
  obtain ⟨f, od, an, sl, oc, kV, dc, pm, cd, ct, h1, h2, h3, h4, h5⟩ := T.at'
  exact ⟨f, _, h1, h4, h5, calls_of h2 h3 SC hT hnp hnN hb (fun q hq => (hlam q hq).to h1 h2)⟩
theorem wordsF_of {sf : Stmt} {ps : List Str} {W : Option Str} {fl : Xc → Option PyData} (T : TopFn M x sf ps) (SC : FnScope B.N ps (defScope sf)) (hT : fnT B (defScope sf) = true) (hnp : ps.length = 1) (hlq : B.lq = none)
    (hb : ∀ (X Y : Cx) (τ : L2.St) (cls : List (En → Sto → Rs Wv)), Cxt M X B k → cls.length ≤ 1000 → (Y.prog = M.P ∧ Y.w = M.w ∧ Y.K = M.K ∧ Y.mg = M.mg ∧ Y.base = M.base) → Past Y τ X.H_0 X.s_0.heap → X.ex = [] → PSs X (defBody sf) (tRet (tEL2 X Y kb 0 cls τ (eLams W fl cls)))) : WordsF M B.gd (k + 1) kb x ps W fl := by
  obtain ⟨f, od, an, sl, oc, kV, dc, pm, cd, ct, h1, h2, h3, h4, h5⟩ := T.at'
  exact ⟨f, _, h1, h4, h5, words_of h2 h3 SC hT hnp hlq hb⟩
theorem de_lamF {X : Cx} {k1 k2 np : Nat} {g1 g2 : Bool} {ps1 ps2 : List Str} {W : Option Str} {fl : Xc → Option PyData} {cls : List (En → Sto → Rs Wv)} {x1 x2 : Str} {e : Expr} {es : List Expr} {cs : En → Sto → Rs (List Wv)} {p p1 pos pos1 : Pos} (c : Cxt M X B k) (F1 : CallsF M g1 k1 kb np x1 ps1 cls) (F2 : WordsF M g2 k2 kb x2 ps2 W fl) (l1 : k1 ≤ k) (l2 : k2 ≤ k) (hn : cls.length ≤ 1000) (j1 j2 : Nat) (hj1 : B.gs[j1]? = some x1) (hj2 : B.gs[j2]? = some x2)
    (ha : DA X (e :: es) cs) (hgd1 : g1 = true → B.gd = true) (hgd2 : g2 = true → B.gd = true) (hd1 : (x1 == ("__debug__" : Str)) = false := by decide) (hd2 : (x2 == ("__debug__" : Str)) = false := by decide)
    (he : starEach (e :: es) X.env = (false, eval e X.env) :: starEach es X.env := by rfl) (hpl : (backTo pos1 (starEach es X.env)).any (·.1) = false := by rfl) : DE X (.Call (.Name x2 p) [.Call (.Name x1 p1) (e :: es) [] pos1] [] pos) (eLamC np cs W fl cls) := by
  obtain ⟨f1, fd1, a1, a2, a3, a4⟩ := F1
  obtain ⟨f2, fd2, b1, b2, b3, b4⟩ := F2
  exact de_lamC c (a4.mono l1) (b4.mono l2) hn j1 j2 hj1 hj2 a1 b1 a2 b2 a3 b3 ha hgd1 hgd2 hd1 hd2 he hpl
end
end
section
variable [Tbl]
def topS (i : Nat) : Stmt := PySem.Challenge.pw_bentstones_k27_refusals_of_fills.main.body.getD i (.Pass ⟨0, 0, 0, 0⟩)
def w_MOST_JOINT : PyData := (.int 9)
def w_MOST_SPAN : PyData := (.int 80)
def w_MOST_SPANS : PyData := (.int 6)
def w_MOST_STONE : PyData := (.int 20)
def w_MOST_STONES : PyData := (.int 12)
def fldX : List (Str × List Str) := [("NoStrip", ["leg"]), ("TooGreat", ["many", "most"]), ("Short", ["shade", "batch", "long", "by"]), ("Over", ["row", "stone", "other", "second"]), ("NoText", ["word"])]
def ysX : List Str := ["Missing", "NoDrawing", "NoFit", "NoJoints", "NoLaying", "NoLine", "NoLongs", "NoLots", "NoNumber", "NoOrder", "NoPanel", "NoPath", "NoPlace", "NoRow", "NoShift", "NoSpan", "NoStock", "NoStone", "NoStrip", "NoText", "NoWants", "NoWidth", "Nothing", "Over", "Short", "TooGreat"]
@[reducible] instance theW : Wtp := ⟨[]⟩
structure Hs (M : Md) : Prop where
  z_ArithmeticError : M.mg "ArithmeticError" = none
  z_LookupError : M.mg "LookupError" = none
  z_RuntimeError : M.mg "RuntimeError" = none
  z_TypeError : M.mg "TypeError" = none
  z_ValueError : M.mg "ValueError" = none
  z_all : M.mg "all" = none
  z_bool : M.mg "bool" = none
  z_int : M.mg "int" = none
  z_isinstance : M.mg "isinstance" = none
  z_len : M.mg "len" = none
  z_list : M.mg "list" = none
  z_max : M.mg "max" = none
  z_min : M.mg "min" = none
  z_range : M.mg "range" = none
  z_sum : M.mg "sum" = none
  z_tuple : M.mg "tuple" = none
  g_MOST_JOINT : Gw M "MOST_JOINT" w_MOST_JOINT
  g_MOST_SPAN : Gw M "MOST_SPAN" w_MOST_SPAN
  g_MOST_SPANS : Gw M "MOST_SPANS" w_MOST_SPANS
  g_MOST_STONE : Gw M "MOST_STONE" w_MOST_STONE
  g_MOST_STONES : Gw M "MOST_STONES" w_MOST_STONES
  e_StoneError : ∃ C, M.mg "StoneError" = some (.ref C)
  e_NoJoints : ∃ C, XcA M "StoneError" ysX fldX "NoJoints" C
  e_NoLongs : ∃ C, XcA M "StoneError" ysX fldX "NoLongs" C
  e_NoNumber : ∃ C, XcA M "StoneError" ysX fldX "NoNumber" C
  e_NoSpan : ∃ C, XcA M "StoneError" ysX fldX "NoSpan" C
theorem q_MOST_JOINT {M : Md} {X : Cx} {B : Tb} {k : Nat} {p : Pos} (T : Hs M) (c : Cxt M X B k) (j : Nat) (h : B.gs[j]? = some "MOST_JOINT") : DE X (.Name "MOST_JOINT" p) (eK w_MOST_JOINT) := de_gw c j h T.g_MOST_JOINT
theorem q_MOST_SPAN {M : Md} {X : Cx} {B : Tb} {k : Nat} {p : Pos} (T : Hs M) (c : Cxt M X B k) (j : Nat) (h : B.gs[j]? = some "MOST_SPAN") : DE X (.Name "MOST_SPAN" p) (eK w_MOST_SPAN) := de_gw c j h T.g_MOST_SPAN
theorem q_MOST_SPANS {M : Md} {X : Cx} {B : Tb} {k : Nat} {p : Pos} (T : Hs M) (c : Cxt M X B k) (j : Nat) (h : B.gs[j]? = some "MOST_SPANS") : DE X (.Name "MOST_SPANS" p) (eK w_MOST_SPANS) := de_gw c j h T.g_MOST_SPANS
theorem q_MOST_STONE {M : Md} {X : Cx} {B : Tb} {k : Nat} {p : Pos} (T : Hs M) (c : Cxt M X B k) (j : Nat) (h : B.gs[j]? = some "MOST_STONE") : DE X (.Name "MOST_STONE" p) (eK w_MOST_STONE) := de_gw c j h T.g_MOST_STONE
theorem q_MOST_STONES {M : Md} {X : Cx} {B : Tb} {k : Nat} {p : Pos} (T : Hs M) (c : Cxt M X B k) (j : Nat) (h : B.gs[j]? = some "MOST_STONES") : DE X (.Name "MOST_STONES" p) (eK w_MOST_STONES) := de_gw c j h T.g_MOST_STONES
abbrev s__law_pen_of : Stmt := topS 76
def B__law_pen_of : Tb := ⟨["_law_cell", "_law_left"], [0, 1], [0, 1], [0, 1], ["max", "int"], [], true, false, none⟩
theorem sc__law_pen_of : FnScope B__law_pen_of.N ["_law_cell"] (defScope s__law_pen_of) := ⟨rfl, rfl, rfl, by decide +kernel, rfl, by decide +kernel, by decide +kernel⟩
theorem t__law_pen_of : fnT B__law_pen_of (defScope s__law_pen_of) = true := by decide +kernel
noncomputable def d__law_pen_of : En → Sto → SR :=
    (sSeq (sSet 1 (eOpN max2F (aCons (eVar 0) (aCons (eOp2 subD (eK (.int 0)) (eVar 0)) aNil))))
    (sRet (eNewL (aCons (eVar 1) (aCons (eOpN intF (aCons (eOp2 geD (eVar 1) (eOp2 powD (eK (.int 10)) (eK (.int 18)))) aNil)) (aCons (eOp2 modD (eVar 1) (eK (.int 1000003))) aNil))))))
noncomputable def m__law_pen_of : List Wv → Sto → Rs Wv := mkF 1 2 d__law_pen_of
theorem b__law_pen_of {M : Md} {X : Cx} (T : Hs M)  (c : Cxt M X B__law_pen_of 0) : DB X (defBody s__law_pen_of) d__law_pen_of :=
    (db_cons (ds_set c 1 rfl (by decide) (de_callB (id := "max") c (c_max2 c.calm) 0 rfl T.z_max (by decide +kernel) (da_cons (de_var c 0 rfl (by decide)) (da_cons (de_bin o_sub de_int (de_var c 0 rfl (by decide))) da_nil))))
    (db_one (ds_ret (de_newl (da_cons (de_var c 1 rfl (by decide)) (da_cons (de_callT (T := "int") c c_int 1 rfl T.z_int (by decide +kernel) (da_cons (de_cmp (o_ge c.roomH) (de_var c 1 rfl (by decide)) (de_bin o_pow de_int de_int) (nomark _)) da_nil)) (da_cons (de_bin o_mod (de_var c 1 rfl (by decide)) de_int) da_nil)))))))
theorem h__law_pen_of {M : Md} (T : Hs M)  (F : TopFn M "_law_pen_of" s__law_pen_of ["_law_cell"]) : Has M false 1 "_law_pen_of" ["_law_cell"] m__law_pen_of := has_of F sc__law_pen_of t__law_pen_of rfl rfl (fun X c => b__law_pen_of T  c)
abbrev s__law_next : Stmt := topS 75
def B__law_next : Tb := ⟨["_law_seed"], [0], [0], [0], [], [], true, false, none⟩
theorem sc__law_next : FnScope B__law_next.N ["_law_seed"] (defScope s__law_next) := ⟨rfl, rfl, rfl, by decide +kernel, rfl, by decide +kernel, by decide +kernel⟩
theorem t__law_next : fnT B__law_next (defScope s__law_next) = true := by decide +kernel
noncomputable def d__law_next : En → Sto → SR :=
    (sSeq (sSet 0 (eOp2 modD (eOp2 addD (eVar 0) (eK (.int 7919))) (eK (.int 2147483647))))
    (sRet (eOp2 modD (eOp2 addD (eOp2 addD (eOp2 mulD (eVar 0) (eVar 0)) (eOp2 mulD (eK (.int 48271)) (eVar 0))) (eK (.int 12345))) (eK (.int 2147483629)))))
noncomputable def m__law_next : List Wv → Sto → Rs Wv := mkF 1 1 d__law_next
theorem b__law_next {M : Md} {X : Cx} (T : Hs M)  (c : Cxt M X B__law_next 0) : DB X (defBody s__law_next) d__law_next :=
    (db_cons (ds_set c 0 rfl (by decide) (de_bin o_mod (de_bin o_add (de_var c 0 rfl (by decide)) de_int) de_int))
    (db_one (ds_ret (de_bin o_mod (de_bin o_add (de_bin o_add (de_bin o_mul (de_var c 0 rfl (by decide)) (de_var c 0 rfl (by decide))) (de_bin o_mul de_int (de_var c 0 rfl (by decide)))) de_int) de_int))))
theorem h__law_next {M : Md} (T : Hs M)  (F : TopFn M "_law_next" s__law_next ["_law_seed"]) : Has M false 1 "_law_next" ["_law_seed"] m__law_next := has_of F sc__law_next t__law_next rfl rfl (fun X c => b__law_next T  c)
abbrev s__law_draw : Stmt := topS 77
def B__law_draw : Tb := ⟨["_law_pen", "_law_many", "_law_found"], [0, 1, 2], [0, 1, 2], [0, 1, 2], ["_law_next"], [], true, false, none⟩
theorem sc__law_draw : FnScope B__law_draw.N ["_law_pen", "_law_many"] (defScope s__law_draw) := ⟨rfl, rfl, rfl, by decide +kernel, rfl, by decide +kernel, by decide +kernel⟩
theorem t__law_draw : fnT B__law_draw (defScope s__law_draw) = true := by decide +kernel
noncomputable def d__law_draw : En → Sto → SR :=
    (sSeq (sIf (tAnd2 (tBl (eOp2 eqD (eOp2 ixD (eVar 0) (eK (.int 1))) (eK (.int 1)))) (tBl (eOp2 gtD (eOp2 ixD (eVar 0) (eK (.int 0))) (eK (.int 0))))) (sSeq (sSet 2 (eOp2 modD (eOp2 ixD (eVar 0) (eK (.int 0))) (eVar 1)))
    (sSeq (sIx (eVar 0) (eK (.int 0)) (eOp2 divD (eOp2 ixD (eVar 0) (eK (.int 0))) (eVar 1)))
    (sRet (eVar 2)))) sNil)
    (sSeq (sIx (eVar 0) (eK (.int 2)) (eCall m__law_next (aCons (eOp2 addD (eCall m__law_next (aCons (eOp2 ixD (eVar 0) (eK (.int 2))) aNil)) (eK (.int 7))) aNil)))
    (sRet (eOp2 modD (eOp2 divD (eOp2 ixD (eVar 0) (eK (.int 2))) (eK (.int 64))) (eVar 1)))))
noncomputable def m__law_draw : List Wv → Sto → Rs Wv := mkF 2 3 d__law_draw
theorem b__law_draw {M : Md} {X : Cx} (T : Hs M) (h__law_next : Has M false 1 "_law_next" ["_law_seed"] m__law_next) (c : Cxt M X B__law_draw 1) : DB X (defBody s__law_draw) d__law_draw :=
    (db_cons (ds_if (DW.dt (dw_and (dt_cmp (o_eq c.roomH) (de_ix c.roomH (de_var c 0 rfl (by decide)) de_int (fun _ _ => rfl)) de_int (nomark _)) (dw_and1 (dt_cmp (o_gt c.roomH) (de_ix c.roomH (de_var c 0 rfl (by decide)) de_int (fun _ _ => rfl)) de_int (nomark _))))) (db_cons (ds_set c 2 rfl (by decide) (de_bin o_mod (de_ix c.roomH (de_var c 0 rfl (by decide)) de_int (fun _ _ => rfl)) (de_var c 1 rfl (by decide))))
    (db_cons (ds_setix c (de_var c 0 rfl (by decide)) de_int (de_bin o_div (de_ix c.roomH (de_var c 0 rfl (by decide)) de_int (fun _ _ => rfl)) (de_var c 1 rfl (by decide))))
    (db_one (ds_ret (de_var c 2 rfl (by decide)))))) db_nil)
    (db_cons (ds_setix c (de_var c 0 rfl (by decide)) de_int (de_fn c (h__law_next.up (by decide)) 0 rfl (da_cons (de_bin o_add (de_fn c (h__law_next.up (by decide)) 0 rfl (da_cons (de_ix c.roomH (de_var c 0 rfl (by decide)) de_int (fun _ _ => rfl)) da_nil)) de_int) da_nil)))
    (db_one (ds_ret (de_bin o_mod (de_bin o_div (de_ix c.roomH (de_var c 0 rfl (by decide)) de_int (fun _ _ => rfl)) de_int) (de_var c 1 rfl (by decide)))))))
theorem h__law_draw {M : Md} (T : Hs M) (h__law_next : Has M false 1 "_law_next" ["_law_seed"] m__law_next) (F : TopFn M "_law_draw" s__law_draw ["_law_pen", "_law_many"]) : Has M false 2 "_law_draw" ["_law_pen", "_law_many"] m__law_draw := has_of F sc__law_draw t__law_draw rfl rfl (fun X c => b__law_draw T h__law_next c)
abbrev s__law_span : Stmt := topS 80
def B__law_span : Tb := ⟨["_law_pen", "_law_longs_here", "_law_joints_here", "_law_many", "_law_low", "_law_high", "_law_mode", "_law_near", "_law_past", "_law_short", "_law_far"], [0, 1, 2, 3, 4, 5, 6, 7, 8, 9, 10], [0, 1, 2, 3, 4, 5, 6, 7, 8, 9, 10], [0, 1, 2, 3, 4, 5, 6, 7, 8, 9, 10], ["len", "sum", "_law_draw", "max", "min"], [], true, false, none⟩
theorem sc__law_span : FnScope B__law_span.N ["_law_pen", "_law_longs_here", "_law_joints_here"] (defScope s__law_span) := ⟨rfl, rfl, rfl, by decide +kernel, rfl, by decide +kernel, by decide +kernel⟩
theorem t__law_span : fnT B__law_span (defScope s__law_span) = true := by decide +kernel
noncomputable def d__law_span : En → Sto → SR :=
    (sSeq (sSet 3 (eOp2 subD (eOpN lenF (aCons (eVar 1) aNil)) (eK (.int 1))))
    (sSeq (sSet 4 (eOp2 addD (eOpN sumF (aCons (eVar 1) aNil)) (eOp2 mulD (eVar 3) (eOp2 ixD (eVar 2) (eK (.int 0))))))
    (sSeq (sSet 5 (eOp2 addD (eOpN sumF (aCons (eVar 1) aNil)) (eOp2 mulD (eVar 3) (eOp2 ixD (eVar 2) (eK (.int 1))))))
    (sSeq (sSet 6 (eCall m__law_draw (aCons (eVar 0) (aCons (eK (.int 5)) aNil))))
    (sSeq (sSet 7 (eCall m__law_draw (aCons (eVar 0) (aCons (eOp2 addD (eOp2 subD (eVar 5) (eVar 4)) (eK (.int 1))) aNil))))
    (sSeq (sPar2 8 9 (aCons (eOp2 addD (eK (.int 1)) (eCall m__law_draw (aCons (eVar 0) (aCons (eK (.int 4)) aNil)))) (aCons (eOp2 addD (eK (.int 1)) (eCall m__law_draw (aCons (eVar 0) (aCons (eK (.int 9)) aNil)))) aNil)))
    (sSeq (sSet 10 (eOp2 ixD (eLst (aCons (eVar 4) (aCons (eVar 5) (aCons (eOp2 addD (eVar 4) (eVar 7)) (aCons (eOp2 addD (eVar 5) (eVar 8)) (aCons (eOp2 subD (eVar 4) (eVar 9)) aNil)))))) (eVar 6)))
    (sRet (eOpN max2F (aCons (eK (.int 1)) (aCons (eOpN min2F (aCons (eK (.int 80)) (aCons (eVar 10) aNil))) aNil)))))))))))
noncomputable def m__law_span : List Wv → Sto → Rs Wv := mkF 3 11 d__law_span
theorem b__law_span {M : Md} {X : Cx} (T : Hs M) (h__law_draw : Has M false 2 "_law_draw" ["_law_pen", "_law_many"] m__law_draw) (c : Cxt M X B__law_span 2) : DB X (defBody s__law_span) d__law_span :=
    (db_cons (ds_set c 3 rfl (by decide) (de_bin o_sub (de_callB (id := "len") c c_len 0 rfl T.z_len (by decide +kernel) (da_cons (de_var c 1 rfl (by decide)) da_nil)) de_int))
    (db_cons (ds_set c 4 rfl (by decide) (de_bin o_add (de_callB (id := "sum") c (c_sum c.calm) 1 rfl T.z_sum (by decide +kernel) (da_cons (de_var c 1 rfl (by decide)) da_nil)) (de_bin o_mul (de_var c 3 rfl (by decide)) (de_ix c.roomH (de_var c 2 rfl (by decide)) de_int (fun _ _ => rfl)))))
    (db_cons (ds_set c 5 rfl (by decide) (de_bin o_add (de_callB (id := "sum") c (c_sum c.calm) 1 rfl T.z_sum (by decide +kernel) (da_cons (de_var c 1 rfl (by decide)) da_nil)) (de_bin o_mul (de_var c 3 rfl (by decide)) (de_ix c.roomH (de_var c 2 rfl (by decide)) de_int (fun _ _ => rfl)))))
    (db_cons (ds_set c 6 rfl (by decide) (de_fn c (h__law_draw.up (by decide)) 2 rfl (da_cons (de_var c 0 rfl (by decide)) (da_cons de_int da_nil))))
    (db_cons (ds_set c 7 rfl (by decide) (de_fn c (h__law_draw.up (by decide)) 2 rfl (da_cons (de_var c 0 rfl (by decide)) (da_cons (de_bin o_add (de_bin o_sub (de_var c 5 rfl (by decide)) (de_var c 4 rfl (by decide))) de_int) da_nil))))
    (db_cons (ds_par2 c 8 9 rfl rfl (by decide) (isLoc c (i := 8) (by decide) rfl) (isLoc c (i := 9) (by decide) rfl) (da_cons (de_bin o_add de_int (de_fn c (h__law_draw.up (by decide)) 2 rfl (da_cons (de_var c 0 rfl (by decide)) (da_cons de_int da_nil)))) (da_cons (de_bin o_add de_int (de_fn c (h__law_draw.up (by decide)) 2 rfl (da_cons (de_var c 0 rfl (by decide)) (da_cons de_int da_nil)))) da_nil)) (sw2 c (i := 8) (j := 9) rfl rfl (by decide) (by decide) (by decide +kernel) rfl rfl (by intro _ _ h; cases h) (by intro _ _ h; cases h) rfl rfl))
    (db_cons (ds_set c 10 rfl (by decide) (de_ix c.roomH (de_lst (da_cons (de_var c 4 rfl (by decide)) (da_cons (de_var c 5 rfl (by decide)) (da_cons (de_bin o_add (de_var c 4 rfl (by decide)) (de_var c 7 rfl (by decide))) (da_cons (de_bin o_add (de_var c 5 rfl (by decide)) (de_var c 8 rfl (by decide))) (da_cons (de_bin o_sub (de_var c 4 rfl (by decide)) (de_var c 9 rfl (by decide))) da_nil)))))) (de_var c 6 rfl (by decide)) (fun _ _ => rfl)))
    (db_one (ds_ret (de_callB (id := "max") c (c_max2 c.calm) 3 rfl T.z_max (by decide +kernel) (da_cons de_int (da_cons (de_callB (id := "min") c (c_min2 c.calm) 4 rfl T.z_min (by decide +kernel) (da_cons de_int (da_cons (de_var c 10 rfl (by decide)) da_nil))) da_nil))))))))))))
theorem h__law_span {M : Md} (T : Hs M) (h__law_draw : Has M false 2 "_law_draw" ["_law_pen", "_law_many"] m__law_draw) (F : TopFn M "_law_span" s__law_span ["_law_pen", "_law_longs_here", "_law_joints_here"]) : Has M false 3 "_law_span" ["_law_pen", "_law_longs_here", "_law_joints_here"] m__law_span := has_of F sc__law_span t__law_span rfl rfl (fun X c => b__law_span T h__law_draw c)
abbrev s_is_whole : Stmt := topS 29
def B_is_whole : Tb := ⟨["thing"], [0], [0], [0], ["isinstance", "int", "bool"], [], true, false, none⟩
theorem sc_is_whole : FnScope B_is_whole.N ["thing"] (defScope s_is_whole) := ⟨rfl, rfl, rfl, by decide +kernel, rfl, by decide +kernel, by decide +kernel⟩
theorem t_is_whole : fnT B_is_whole (defScope s_is_whole) = true := by decide +kernel
noncomputable def d_is_whole : En → Sto → SR :=
    (sRet (eAnd2 (eOp1 (isaD "int") (eVar 0)) (eNot1 (eOp1 (isaD "bool") (eVar 0)))))
noncomputable def m_is_whole : List Wv → Sto → Rs Wv := mkF 1 1 d_is_whole
theorem b_is_whole {M : Md} {X : Cx} (T : Hs M)  (c : Cxt M X B_is_whole 0) : DB X (defBody s_is_whole) d_is_whole :=
    (db_one (ds_ret (de_and (de_isa c 0 1 rfl T.z_isinstance rfl T.z_int (by decide +kernel) (de_var c 0 rfl (by decide))) (de_one (de_not (de_isa c 0 2 rfl T.z_isinstance rfl T.z_bool (by decide +kernel) (de_var c 0 rfl (by decide))))))))
theorem h_is_whole {M : Md} (T : Hs M)  (F : TopFn M "is_whole" s_is_whole ["thing"]) : Has M false 1 "is_whole" ["thing"] m_is_whole := has_of F sc_is_whole t_is_whole rfl rfl (fun X c => b_is_whole T  c)
abbrev s_is_from_to : Stmt := topS 30
def B_is_from_to : Tb := ⟨["thing", "least", "most"], [0, 1, 2], [0, 1, 2], [0, 1, 2], ["is_whole"], [], true, false, none⟩
theorem sc_is_from_to : FnScope B_is_from_to.N ["thing", "least", "most"] (defScope s_is_from_to) := ⟨rfl, rfl, rfl, by decide +kernel, rfl, by decide +kernel, by decide +kernel⟩
theorem t_is_from_to : fnT B_is_from_to (defScope s_is_from_to) = true := by decide +kernel
noncomputable def d_is_from_to : En → Sto → SR :=
    (sRet (eAnd2 (eCall m_is_whole (aCons (eVar 0) aNil)) (eChain leD leD (eVar 1) (eVar 0) (eVar 2))))
noncomputable def m_is_from_to : List Wv → Sto → Rs Wv := mkF 3 3 d_is_from_to
theorem b_is_from_to {M : Md} {X : Cx} (T : Hs M) (h_is_whole : Has M false 1 "is_whole" ["thing"] m_is_whole) (c : Cxt M X B_is_from_to 1) : DB X (defBody s_is_from_to) d_is_from_to :=
    (db_one (ds_ret (de_and (de_fn c (h_is_whole.up (by decide)) 0 rfl (da_cons (de_var c 0 rfl (by decide)) da_nil)) (de_one (de_chain (o_le c.roomH) (o_le c.roomH) (de_var c 1 rfl (by decide)) (de_var c 0 rfl (by decide)) (de_var c 2 rfl (by decide)))))))
theorem h_is_from_to {M : Md} (T : Hs M) (h_is_whole : Has M false 1 "is_whole" ["thing"] m_is_whole) (F : TopFn M "is_from_to" s_is_from_to ["thing", "least", "most"]) : Has M false 2 "is_from_to" ["thing", "least", "most"] m_is_from_to := has_of F sc_is_from_to t_is_from_to rfl rfl (fun X c => b_is_from_to T h_is_whole c)
abbrev s_are_longs : Stmt := topS 36
def B_are_longs : Tb := ⟨["thing", ".0", "one"], [0], [0], [0], ["isinstance", "tuple", "len", "MOST_STONES", "all"], [], true, false, none⟩
theorem sc_are_longs : FnScope B_are_longs.N ["thing"] (defScope s_are_longs) := ⟨rfl, rfl, rfl, by decide +kernel, rfl, by decide +kernel, by decide +kernel⟩
theorem t_are_longs : fnT B_are_longs (defScope s_are_longs) = true := by decide +kernel
noncomputable def d_are_longs : En → Sto → SR :=
    (sSeq (sIf (tOr2 (tNot1 (tTru (eOp1 (isaD "tuple") (eVar 0)))) (tNot1 (tBl (eChain leD leD (eK (.int 1)) (eOpN lenF (aCons (eVar 0) aNil)) (eK w_MOST_STONES))))) (sRet (eK (.bool false))) sNil)
    (sRet (eOpN allF (aCons (eLc (cSeq (eVar 0)) (gN 2) tYs (eCall m_is_from_to (aCons (eVar 2) (aCons (eK (.int 1)) (aCons (eK w_MOST_STONE) aNil)))) [1, 2]) aNil))))
noncomputable def m_are_longs : List Wv → Sto → Rs Wv := mkF 1 3 d_are_longs
theorem b_are_longs {M : Md} {X : Cx} (T : Hs M) (h_is_from_to : Has M false 2 "is_from_to" ["thing", "least", "most"] m_is_from_to) (c : Cxt M X B_are_longs 2) : DB X (defBody s_are_longs) d_are_longs :=
    (db_cons (ds_if (DW.dt (dw_or (dt_not (dt_val (de_isa c 0 1 rfl T.z_isinstance rfl T.z_tuple (by decide +kernel) (de_var c 0 rfl (by decide))))) (dw_or1 (dt_not (dt_chain (o_le c.roomH) (o_le c.roomH) de_int (de_callB (id := "len") c c_len 2 rfl T.z_len (by decide +kernel) (da_cons (de_var c 0 rfl (by decide)) da_nil)) (q_MOST_STONES T c 3 rfl)))))) (db_one (ds_ret de_bl)) db_nil)
    (db_one (ds_ret (de_callB (id := "all") c (c_all c.calm) 4 rfl T.z_all (by decide +kernel) (da_cons (de_lc c (lc_ok c [(".0", 1), ("one", 2)] [1, 2] [1, 2] ["is_from_to", "MOST_STONE"] [] (by decide +kernel) (di_seq (de_var c 0 rfl (by decide))) (by decide) (fun _ c1 => (dg_name c1 [1, 2] 2 rfl (by decide) (by decide))) (fun _ c1 => dts_nil) (fun _ c1 => (de_fn c1 (h_is_from_to.up (by decide)) 0 rfl (da_cons (de_var c1 2 rfl (by decide)) (da_cons de_int (da_cons (q_MOST_STONE T c1 1 rfl) da_nil))))))) da_nil)))))
theorem h_are_longs {M : Md} (T : Hs M) (h_is_from_to : Has M false 2 "is_from_to" ["thing", "least", "most"] m_is_from_to) (F : TopFn M "are_longs" s_are_longs ["thing"]) : Has M false 3 "are_longs" ["thing"] m_are_longs := has_of F sc_are_longs t_are_longs rfl rfl (fun X c => b_are_longs T h_is_from_to c)
abbrev s_need_longs : Stmt := topS 37
def B_need_longs : Tb := ⟨["longs"], [0], [0], [0], ["are_longs", "NoLongs"], [], true, false, none⟩
theorem sc_need_longs : FnScope B_need_longs.N ["longs"] (defScope s_need_longs) := ⟨rfl, rfl, rfl, by decide +kernel, rfl, by decide +kernel, by decide +kernel⟩
theorem t_need_longs : fnT B_need_longs (defScope s_need_longs) = true := by decide +kernel
noncomputable def d_need_longs : En → Sto → SR :=
    (sIf (tNot1 (tTru (eCall m_are_longs (aCons (eVar 0) aNil)))) (sRaise "NoLongs") sNil)
noncomputable def m_need_longs : List Wv → Sto → Rs Wv := mkF 1 1 d_need_longs
theorem b_need_longs {M : Md} {X : Cx} (T : Hs M) (h_are_longs : Has M false 3 "are_longs" ["thing"] m_are_longs) (c : Cxt M X B_need_longs 3) : DB X (defBody s_need_longs) d_need_longs :=
    (db_one (ds_if (dt_not (dt_val (de_fn c (h_are_longs.up (by decide)) 0 rfl (da_cons (de_var c 0 rfl (by decide)) da_nil)))) (db_one (ds_raiseO c 1 rfl T.e_NoLongs)) db_nil))
theorem h_need_longs {M : Md} (T : Hs M) (h_are_longs : Has M false 3 "are_longs" ["thing"] m_are_longs) (F : TopFn M "need_longs" s_need_longs ["longs"]) : Has M false 4 "need_longs" ["longs"] m_need_longs := has_of F sc_need_longs t_need_longs rfl rfl (fun X c => b_need_longs T h_are_longs c)
abbrev s_is_span : Stmt := topS 38
def B_is_span : Tb := ⟨["thing"], [0], [0], [0], ["is_from_to", "MOST_SPAN"], [], true, false, none⟩
theorem sc_is_span : FnScope B_is_span.N ["thing"] (defScope s_is_span) := ⟨rfl, rfl, rfl, by decide +kernel, rfl, by decide +kernel, by decide +kernel⟩
theorem t_is_span : fnT B_is_span (defScope s_is_span) = true := by decide +kernel
noncomputable def d_is_span : En → Sto → SR :=
    (sRet (eCall m_is_from_to (aCons (eVar 0) (aCons (eK (.int 1)) (aCons (eK w_MOST_SPAN) aNil)))))
noncomputable def m_is_span : List Wv → Sto → Rs Wv := mkF 1 1 d_is_span
theorem b_is_span {M : Md} {X : Cx} (T : Hs M) (h_is_from_to : Has M false 2 "is_from_to" ["thing", "least", "most"] m_is_from_to) (c : Cxt M X B_is_span 2) : DB X (defBody s_is_span) d_is_span :=
    (db_one (ds_ret (de_fn c (h_is_from_to.up (by decide)) 0 rfl (da_cons (de_var c 0 rfl (by decide)) (da_cons de_int (da_cons (q_MOST_SPAN T c 1 rfl) da_nil))))))
theorem h_is_span {M : Md} (T : Hs M) (h_is_from_to : Has M false 2 "is_from_to" ["thing", "least", "most"] m_is_from_to) (F : TopFn M "is_span" s_is_span ["thing"]) : Has M false 3 "is_span" ["thing"] m_is_span := has_of F sc_is_span t_is_span rfl rfl (fun X c => b_is_span T h_is_from_to c)
abbrev s_need_span : Stmt := topS 39
def B_need_span : Tb := ⟨["span"], [0], [0], [0], ["is_span", "NoSpan"], [], true, false, none⟩
theorem sc_need_span : FnScope B_need_span.N ["span"] (defScope s_need_span) := ⟨rfl, rfl, rfl, by decide +kernel, rfl, by decide +kernel, by decide +kernel⟩
theorem t_need_span : fnT B_need_span (defScope s_need_span) = true := by decide +kernel
noncomputable def d_need_span : En → Sto → SR :=
    (sIf (tNot1 (tTru (eCall m_is_span (aCons (eVar 0) aNil)))) (sRaise "NoSpan") sNil)
noncomputable def m_need_span : List Wv → Sto → Rs Wv := mkF 1 1 d_need_span
theorem b_need_span {M : Md} {X : Cx} (T : Hs M) (h_is_span : Has M false 3 "is_span" ["thing"] m_is_span) (c : Cxt M X B_need_span 3) : DB X (defBody s_need_span) d_need_span :=
    (db_one (ds_if (dt_not (dt_val (de_fn c (h_is_span.up (by decide)) 0 rfl (da_cons (de_var c 0 rfl (by decide)) da_nil)))) (db_one (ds_raiseO c 1 rfl T.e_NoSpan)) db_nil))
theorem h_need_span {M : Md} (T : Hs M) (h_is_span : Has M false 3 "is_span" ["thing"] m_is_span) (F : TopFn M "need_span" s_need_span ["span"]) : Has M false 4 "need_span" ["span"] m_need_span := has_of F sc_need_span t_need_span rfl rfl (fun X c => b_need_span T h_is_span c)
abbrev s_are_joints : Stmt := topS 40
def B_are_joints : Tb := ⟨["thing"], [0], [0], [0], ["isinstance", "tuple", "len", "is_from_to", "MOST_JOINT"], [], true, false, none⟩
theorem sc_are_joints : FnScope B_are_joints.N ["thing"] (defScope s_are_joints) := ⟨rfl, rfl, rfl, by decide +kernel, rfl, by decide +kernel, by decide +kernel⟩
theorem t_are_joints : fnT B_are_joints (defScope s_are_joints) = true := by decide +kernel
noncomputable def d_are_joints : En → Sto → SR :=
    (sSeq (sIf (tOr2 (tNot1 (tTru (eOp1 (isaD "tuple") (eVar 0)))) (tBl (eOp2 neD (eOpN lenF (aCons (eVar 0) aNil)) (eK (.int 2))))) (sRet (eK (.bool false))) sNil)
    (sRet (eAnd2 (eCall m_is_from_to (aCons (eOp2 ixD (eVar 0) (eK (.int 0))) (aCons (eK (.int 0)) (aCons (eK w_MOST_JOINT) aNil)))) (eCall m_is_from_to (aCons (eOp2 ixD (eVar 0) (eK (.int 1))) (aCons (eOp2 ixD (eVar 0) (eK (.int 0))) (aCons (eK w_MOST_JOINT) aNil)))))))
noncomputable def m_are_joints : List Wv → Sto → Rs Wv := mkF 1 1 d_are_joints
theorem b_are_joints {M : Md} {X : Cx} (T : Hs M) (h_is_from_to : Has M false 2 "is_from_to" ["thing", "least", "most"] m_is_from_to) (c : Cxt M X B_are_joints 2) : DB X (defBody s_are_joints) d_are_joints :=
    (db_cons (ds_if (DW.dt (dw_or (dt_not (dt_val (de_isa c 0 1 rfl T.z_isinstance rfl T.z_tuple (by decide +kernel) (de_var c 0 rfl (by decide))))) (dw_or1 (dt_cmp (o_ne c.roomH) (de_callB (id := "len") c c_len 2 rfl T.z_len (by decide +kernel) (da_cons (de_var c 0 rfl (by decide)) da_nil)) de_int (nomark _))))) (db_one (ds_ret de_bl)) db_nil)
    (db_one (ds_ret (de_and (de_fn c (h_is_from_to.up (by decide)) 3 rfl (da_cons (de_ix c.roomH (de_var c 0 rfl (by decide)) de_int (fun _ _ => rfl)) (da_cons de_int (da_cons (q_MOST_JOINT T c 4 rfl) da_nil)))) (de_one (de_fn c (h_is_from_to.up (by decide)) 3 rfl (da_cons (de_ix c.roomH (de_var c 0 rfl (by decide)) de_int (fun _ _ => rfl)) (da_cons (de_ix c.roomH (de_var c 0 rfl (by decide)) de_int (fun _ _ => rfl)) (da_cons (q_MOST_JOINT T c 4 rfl) da_nil)))))))))
theorem h_are_joints {M : Md} (T : Hs M) (h_is_from_to : Has M false 2 "is_from_to" ["thing", "least", "most"] m_is_from_to) (F : TopFn M "are_joints" s_are_joints ["thing"]) : Has M false 3 "are_joints" ["thing"] m_are_joints := has_of F sc_are_joints t_are_joints rfl rfl (fun X c => b_are_joints T h_is_from_to c)
abbrev s_need_joints : Stmt := topS 41
def B_need_joints : Tb := ⟨["joints"], [0], [0], [0], ["are_joints", "NoJoints"], [], true, false, none⟩
theorem sc_need_joints : FnScope B_need_joints.N ["joints"] (defScope s_need_joints) := ⟨rfl, rfl, rfl, by decide +kernel, rfl, by decide +kernel, by decide +kernel⟩
theorem t_need_joints : fnT B_need_joints (defScope s_need_joints) = true := by decide +kernel
noncomputable def d_need_joints : En → Sto → SR :=
    (sIf (tNot1 (tTru (eCall m_are_joints (aCons (eVar 0) aNil)))) (sRaise "NoJoints") sNil)
noncomputable def m_need_joints : List Wv → Sto → Rs Wv := mkF 1 1 d_need_joints
theorem b_need_joints {M : Md} {X : Cx} (T : Hs M) (h_are_joints : Has M false 3 "are_joints" ["thing"] m_are_joints) (c : Cxt M X B_need_joints 3) : DB X (defBody s_need_joints) d_need_joints :=
    (db_one (ds_if (dt_not (dt_val (de_fn c (h_are_joints.up (by decide)) 0 rfl (da_cons (de_var c 0 rfl (by decide)) da_nil)))) (db_one (ds_raiseO c 1 rfl T.e_NoJoints)) db_nil))
theorem h_need_joints {M : Md} (T : Hs M) (h_are_joints : Has M false 3 "are_joints" ["thing"] m_are_joints) (F : TopFn M "need_joints" s_need_joints ["joints"]) : Has M false 4 "need_joints" ["joints"] m_need_joints := has_of F sc_need_joints t_need_joints rfl rfl (fun X c => b_need_joints T h_are_joints c)
abbrev s_need_all : Stmt := topS 42
def B_need_all : Tb := ⟨["longs", "span", "joints"], [0, 1, 2], [0, 1, 2], [0, 1, 2], ["need_longs", "need_span", "need_joints"], [], true, false, none⟩
theorem sc_need_all : FnScope B_need_all.N ["longs", "span", "joints"] (defScope s_need_all) := ⟨rfl, rfl, rfl, by decide +kernel, rfl, by decide +kernel, by decide +kernel⟩
theorem t_need_all : fnT B_need_all (defScope s_need_all) = true := by decide +kernel
noncomputable def d_need_all : En → Sto → SR :=
    (sSeq (sExp (eCall m_need_longs (aCons (eVar 0) aNil)))
    (sSeq (sExp (eCall m_need_span (aCons (eVar 1) aNil)))
    (sExp (eCall m_need_joints (aCons (eVar 2) aNil)))))
noncomputable def m_need_all : List Wv → Sto → Rs Wv := mkF 3 3 d_need_all
theorem b_need_all {M : Md} {X : Cx} (T : Hs M) (h_need_joints : Has M false 4 "need_joints" ["joints"] m_need_joints) (h_need_longs : Has M false 4 "need_longs" ["longs"] m_need_longs) (h_need_span : Has M false 4 "need_span" ["span"] m_need_span) (c : Cxt M X B_need_all 4) : DB X (defBody s_need_all) d_need_all :=
    (db_cons (ds_exp (de_fn c (h_need_longs.up (by decide)) 0 rfl (da_cons (de_var c 0 rfl (by decide)) da_nil)))
    (db_cons (ds_exp (de_fn c (h_need_span.up (by decide)) 1 rfl (da_cons (de_var c 1 rfl (by decide)) da_nil)))
    (db_one (ds_exp (de_fn c (h_need_joints.up (by decide)) 2 rfl (da_cons (de_var c 2 rfl (by decide)) da_nil))))))
theorem h_need_all {M : Md} (T : Hs M) (h_need_joints : Has M false 4 "need_joints" ["joints"] m_need_joints) (h_need_longs : Has M false 4 "need_longs" ["longs"] m_need_longs) (h_need_span : Has M false 4 "need_span" ["span"] m_need_span) (F : TopFn M "need_all" s_need_all ["longs", "span", "joints"]) : Has M false 5 "need_all" ["longs", "span", "joints"] m_need_all := has_of F sc_need_all t_need_all rfl rfl (fun X c => b_need_all T h_need_joints h_need_longs h_need_span c)
abbrev s_rest_of : Stmt := topS 43
def B_rest_of : Tb := ⟨["longs", "span"], [0, 1], [0, 1], [0, 1], ["sum"], [], true, false, none⟩
theorem sc_rest_of : FnScope B_rest_of.N ["longs", "span"] (defScope s_rest_of) := ⟨rfl, rfl, rfl, by decide +kernel, rfl, by decide +kernel, by decide +kernel⟩
theorem t_rest_of : fnT B_rest_of (defScope s_rest_of) = true := by decide +kernel
noncomputable def d_rest_of : En → Sto → SR :=
    (sRet (eOp2 subD (eVar 1) (eOpN sumF (aCons (eVar 0) aNil))))
noncomputable def m_rest_of : List Wv → Sto → Rs Wv := mkF 2 2 d_rest_of
theorem b_rest_of {M : Md} {X : Cx} (T : Hs M)  (c : Cxt M X B_rest_of 0) : DB X (defBody s_rest_of) d_rest_of :=
    (db_one (ds_ret (de_bin o_sub (de_var c 1 rfl (by decide)) (de_callB (id := "sum") c (c_sum c.calm) 0 rfl T.z_sum (by decide +kernel) (da_cons (de_var c 0 rfl (by decide)) da_nil)))))
theorem h_rest_of {M : Md} (T : Hs M)  (F : TopFn M "rest_of" s_rest_of ["longs", "span"]) : Has M false 1 "rest_of" ["longs", "span"] m_rest_of := has_of F sc_rest_of t_rest_of rfl rfl (fun X c => b_rest_of T  c)
abbrev s_spread_by : Stmt := topS 49
def B_spread_by : Tb := ⟨["longs", "span", "many", "rest", "starts", "k", "joint"], [0, 1, 2, 3, 4, 5, 6], [0, 1, 2, 3, 4, 5, 6], [0, 1, 2, 3, 4, 5, 6], ["len", "rest_of", "range", "int", "tuple"], [], true, false, none⟩
theorem sc_spread_by : FnScope B_spread_by.N ["longs", "span"] (defScope s_spread_by) := ⟨rfl, rfl, rfl, by decide +kernel, rfl, by decide +kernel, by decide +kernel⟩
theorem t_spread_by : fnT B_spread_by (defScope s_spread_by) = true := by decide +kernel
noncomputable def d_spread_by_l1 : En → Sto → SR :=
    (sSeq (sSet 6 (eOp2 addD (eOp2 divD (eVar 3) (eVar 2)) (eOpN intF (aCons (eOp2 ltD (eVar 5) (eOp2 modD (eVar 3) (eVar 2))) aNil))))
    (sExp (eM appW (eVar 4) (aCons (eOp2 addD (eOp2 addD (eOp2 ixD (eVar 4) (eOp1 negD (eK (.int 1)))) (eOp2 ixD (eVar 0) (eVar 5))) (eVar 6)) aNil))))
noncomputable def d_spread_by : En → Sto → SR :=
    (sSeq (sSet 2 (eOp2 subD (eOpN lenF (aCons (eVar 0) aNil)) (eK (.int 1))))
    (sSeq (sSet 3 (eCall m_rest_of (aCons (eVar 0) (aCons (eVar 1) aNil))))
    (sSeq (sSet 4 (eNewL (aCons (eK (.int 0)) aNil)))
    (sSeq (sFor (cRg1 (aCons (eVar 2) aNil)) (gN 5) d_spread_by_l1)
    (sRet (eOpN tupF (aCons (eVar 4) aNil)))))))
noncomputable def m_spread_by : List Wv → Sto → Rs Wv := mkF 2 7 d_spread_by
theorem b_spread_by {M : Md} {X : Cx} (T : Hs M) (h_rest_of : Has M false 1 "rest_of" ["longs", "span"] m_rest_of) (c : Cxt M X B_spread_by 1) : DB X (defBody s_spread_by) d_spread_by :=
    (db_cons (ds_set c 2 rfl (by decide) (de_bin o_sub (de_callB (id := "len") c c_len 0 rfl T.z_len (by decide +kernel) (da_cons (de_var c 0 rfl (by decide)) da_nil)) de_int))
    (db_cons (ds_set c 3 rfl (by decide) (de_fn c (h_rest_of.up (by decide)) 1 rfl (da_cons (de_var c 0 rfl (by decide)) (da_cons (de_var c 1 rfl (by decide)) da_nil))))
    (db_cons (ds_set c 4 rfl (by decide) (de_newl (da_cons de_int da_nil)))
    (db_cons (ds_for c [5] (di_range1 c 2 rfl T.z_range (da_cons (de_var c 2 rfl (by decide)) da_nil)) (dg_name c [5] 5 rfl (by decide) (by decide))
    (db_cons (ds_set c 6 rfl (by decide) (de_bin o_add (de_bin o_div (de_var c 3 rfl (by decide)) (de_var c 2 rfl (by decide))) (de_callT (T := "int") c c_int 3 rfl T.z_int (by decide +kernel) (da_cons (de_cmp (o_lt c.roomH) (de_var c 5 rfl (by decide)) (de_bin o_mod (de_var c 3 rfl (by decide)) (de_var c 2 rfl (by decide))) (nomark _)) da_nil))))
    (db_one (ds_exp (de_append (de_var c 4 rfl (by decide)) (da_cons (de_bin o_add (de_bin o_add (de_ix c.roomH (de_var c 4 rfl (by decide)) (de_un o_neg de_int) (fun _ _ => rfl)) (de_ix c.roomH (de_var c 0 rfl (by decide)) (de_var c 5 rfl (by decide)) (fun _ _ => rfl))) (de_var c 6 rfl (by decide))) da_nil))))))
    (db_one (ds_ret (de_callT (T := "tuple") c c_tup 4 rfl T.z_tuple (by decide +kernel) (da_cons (de_var c 4 rfl (by decide)) da_nil))))))))
theorem h_spread_by {M : Md} (T : Hs M) (h_rest_of : Has M false 1 "rest_of" ["longs", "span"] m_rest_of) (F : TopFn M "spread_by" s_spread_by ["longs", "span"]) : Has M false 2 "spread_by" ["longs", "span"] m_spread_by := has_of F sc_spread_by t_spread_by rfl rfl (fun X c => b_spread_by T h_rest_of c)
abbrev s_fit : Stmt := topS 44
def B_fit : Tb := ⟨["longs", "span", "joints", "many"], [0, 1, 2, 3], [0, 1, 2, 3], [0, 1, 2, 3], ["len", "rest_of"], [], true, false, none⟩
theorem sc_fit : FnScope B_fit.N ["longs", "span", "joints"] (defScope s_fit) := ⟨rfl, rfl, rfl, by decide +kernel, rfl, by decide +kernel, by decide +kernel⟩
theorem t_fit : fnT B_fit (defScope s_fit) = true := by decide +kernel
noncomputable def d_fit : En → Sto → SR :=
    (sSeq (sSet 3 (eOp2 subD (eOpN lenF (aCons (eVar 0) aNil)) (eK (.int 1))))
    (sRet (eChain leD leD (eOp2 mulD (eVar 3) (eOp2 ixD (eVar 2) (eK (.int 0)))) (eCall m_rest_of (aCons (eVar 0) (aCons (eVar 1) aNil))) (eOp2 mulD (eVar 3) (eOp2 ixD (eVar 2) (eK (.int 1)))))))
noncomputable def m_fit : List Wv → Sto → Rs Wv := mkF 3 4 d_fit
theorem b_fit {M : Md} {X : Cx} (T : Hs M) (h_rest_of : Has M false 1 "rest_of" ["longs", "span"] m_rest_of) (c : Cxt M X B_fit 1) : DB X (defBody s_fit) d_fit :=
    (db_cons (ds_set c 3 rfl (by decide) (de_bin o_sub (de_callB (id := "len") c c_len 0 rfl T.z_len (by decide +kernel) (da_cons (de_var c 0 rfl (by decide)) da_nil)) de_int))
    (db_one (ds_ret (de_chain (o_le c.roomH) (o_le c.roomH) (de_bin o_mul (de_var c 3 rfl (by decide)) (de_ix c.roomH (de_var c 2 rfl (by decide)) de_int (fun _ _ => rfl))) (de_fn c (h_rest_of.up (by decide)) 1 rfl (da_cons (de_var c 0 rfl (by decide)) (da_cons (de_var c 1 rfl (by decide)) da_nil))) (de_bin o_mul (de_var c 3 rfl (by decide)) (de_ix c.roomH (de_var c 2 rfl (by decide)) de_int (fun _ _ => rfl)))))))
theorem h_fit {M : Md} (T : Hs M) (h_rest_of : Has M false 1 "rest_of" ["longs", "span"] m_rest_of) (F : TopFn M "fit" s_fit ["longs", "span", "joints"]) : Has M false 2 "fit" ["longs", "span", "joints"] m_fit := has_of F sc_fit t_fit rfl rfl (fun X c => b_fit T h_rest_of c)
abbrev s_spread : Stmt := topS 50
def B_spread : Tb := ⟨["longs", "span", "joints"], [0, 1, 2], [0, 1, 2], [0, 1, 2], ["need_all", "fit", "spread_by"], [], true, false, none⟩
theorem sc_spread : FnScope B_spread.N ["longs", "span", "joints"] (defScope s_spread) := ⟨rfl, rfl, rfl, by decide +kernel, rfl, by decide +kernel, by decide +kernel⟩
theorem t_spread : fnT B_spread (defScope s_spread) = true := by decide +kernel
noncomputable def d_spread : En → Sto → SR :=
    (sSeq (sExp (eCall m_need_all (aCons (eVar 0) (aCons (eVar 1) (aCons (eVar 2) aNil)))))
    (sSeq (sIf (tNot1 (tTru (eCall m_fit (aCons (eVar 0) (aCons (eVar 1) (aCons (eVar 2) aNil)))))) (sRet (eK .none)) sNil)
    (sRet (eCall m_spread_by (aCons (eVar 0) (aCons (eVar 1) aNil))))))
noncomputable def m_spread : List Wv → Sto → Rs Wv := mkF 3 3 d_spread
theorem b_spread {M : Md} {X : Cx} (T : Hs M) (h_fit : Has M false 2 "fit" ["longs", "span", "joints"] m_fit) (h_need_all : Has M false 5 "need_all" ["longs", "span", "joints"] m_need_all) (h_spread_by : Has M false 2 "spread_by" ["longs", "span"] m_spread_by) (c : Cxt M X B_spread 5) : DB X (defBody s_spread) d_spread :=
    (db_cons (ds_exp (de_fn c (h_need_all.up (by decide)) 0 rfl (da_cons (de_var c 0 rfl (by decide)) (da_cons (de_var c 1 rfl (by decide)) (da_cons (de_var c 2 rfl (by decide)) da_nil)))))
    (db_cons (ds_if (dt_not (dt_val (de_fn c (h_fit.up (by decide)) 1 rfl (da_cons (de_var c 0 rfl (by decide)) (da_cons (de_var c 1 rfl (by decide)) (da_cons (de_var c 2 rfl (by decide)) da_nil)))))) (db_one (ds_ret de_non)) db_nil)
    (db_one (ds_ret (de_fn c (h_spread_by.up (by decide)) 2 rfl (da_cons (de_var c 0 rfl (by decide)) (da_cons (de_var c 1 rfl (by decide)) da_nil)))))))
theorem h_spread {M : Md} (T : Hs M) (h_fit : Has M false 2 "fit" ["longs", "span", "joints"] m_fit) (h_need_all : Has M false 5 "need_all" ["longs", "span", "joints"] m_need_all) (h_spread_by : Has M false 2 "spread_by" ["longs", "span"] m_spread_by) (F : TopFn M "spread" s_spread ["longs", "span", "joints"]) : Has M false 6 "spread" ["longs", "span", "joints"] m_spread := has_of F sc_spread t_spread rfl rfl (fun X c => b_spread T h_fit h_need_all h_spread_by c)
abbrev s__law_cell_at : Stmt := topS 74
def B__law_cell_at : Tb := ⟨["_law_script", "_law_k"], [0, 1], [0, 1], [0, 1], ["len"], [], true, false, none⟩
theorem sc__law_cell_at : FnScope B__law_cell_at.N ["_law_script", "_law_k"] (defScope s__law_cell_at) := ⟨rfl, rfl, rfl, by decide +kernel, rfl, by decide +kernel, by decide +kernel⟩
theorem t__law_cell_at : fnT B__law_cell_at (defScope s__law_cell_at) = true := by decide +kernel
noncomputable def d__law_cell_at : En → Sto → SR :=
    (sSeq (sIf (tBl (eOp2 ltD (eVar 1) (eOpN lenF (aCons (eVar 0) aNil)))) (sRet (eOp2 ixD (eVar 0) (eVar 1))) sNil)
    (sRet (eK (.int 0))))
noncomputable def m__law_cell_at : List Wv → Sto → Rs Wv := mkF 2 2 d__law_cell_at
theorem b__law_cell_at {M : Md} {X : Cx} (T : Hs M)  (c : Cxt M X B__law_cell_at 0) : DB X (defBody s__law_cell_at) d__law_cell_at :=
    (db_cons (ds_if (dt_cmp (o_lt c.roomH) (de_var c 1 rfl (by decide)) (de_callB (id := "len") c c_len 0 rfl T.z_len (by decide +kernel) (da_cons (de_var c 0 rfl (by decide)) da_nil)) (nomark _)) (db_one (ds_ret (de_ix c.roomH (de_var c 0 rfl (by decide)) (de_var c 1 rfl (by decide)) (fun _ _ => rfl)))) db_nil)
    (db_one (ds_ret de_int)))
theorem h__law_cell_at {M : Md} (T : Hs M)  (F : TopFn M "_law_cell_at" s__law_cell_at ["_law_script", "_law_k"]) : Has M false 1 "_law_cell_at" ["_law_script", "_law_k"] m__law_cell_at := has_of F sc__law_cell_at t__law_cell_at rfl rfl (fun X c => b__law_cell_at T  c)
abbrev s__law_longs : Stmt := topS 78
def B__law_longs : Tb := ⟨["_law_pen", "_law_most", "_law_mode", "_law_many", ".0", "_law_k"], [0, 1, 2, 3], [0, 1, 2, 3], [1, 3], ["_law_draw", "tuple", "range"], ["_law_pen", "_law_mode"], true, false, none⟩
theorem sc__law_longs : FnScope B__law_longs.N ["_law_pen", "_law_most"] (defScope s__law_longs) := ⟨rfl, rfl, rfl, by decide +kernel, rfl, by decide +kernel, by decide +kernel⟩
theorem t__law_longs : fnT B__law_longs (defScope s__law_longs) = true := by decide +kernel
noncomputable def d__law_longs : En → Sto → SR :=
    (sSeq (sAsg (gTp (gCn (gN 2) (gCn (gN 3) gNl))) (eTup (aCons (eCall m__law_draw (aCons (eVar 0) (aCons (eK (.int 3)) aNil))) (aCons (eOp2 addD (eK (.int 1)) (eCall m__law_draw (aCons (eVar 0) (aCons (eVar 1) aNil)))) aNil))))
    (sRet (eOpN tupF (aCons (eLc (cRg1 (aCons (eVar 3) aNil)) (gN 5) tYs (eOp2 addD (eK (.int 1)) (eCall m__law_draw (aCons (eVar 0) (aCons (eOp2 ixD (eLst (aCons (eK (.int 3)) (aCons (eK (.int 8)) (aCons (eK (.int 20)) aNil)))) (eVar 2)) aNil)))) [4, 5]) aNil))))
noncomputable def m__law_longs : List Wv → Sto → Rs Wv := mkF 2 6 d__law_longs
theorem b__law_longs {M : Md} {X : Cx} (T : Hs M) (h__law_draw : Has M false 2 "_law_draw" ["_law_pen", "_law_many"] m__law_draw) (c : Cxt M X B__law_longs 2) : DB X (defBody s__law_longs) d__law_longs :=
    (db_cons (ds_asg (de_tup (da_cons (de_fn c (h__law_draw.up (by decide)) 0 rfl (da_cons (de_var c 0 rfl (by decide)) (da_cons de_int da_nil))) (da_cons (de_bin o_add de_int (de_fn c (h__law_draw.up (by decide)) 0 rfl (da_cons (de_var c 0 rfl (by decide)) (da_cons (de_var c 1 rfl (by decide)) da_nil)))) da_nil))) (dg_tup c (dgs_cons (dg_name c [2, 3] 2 rfl (by decide) (by decide)) (dgs_cons (dg_name c [2, 3] 3 rfl (by decide) (by decide)) (dgs_nil [2, 3]))) (asks_cons (asks_cons asks_nil))) (hw := sw2n c (.inl (by decide +kernel))))
    (db_one (ds_ret (de_callT (T := "tuple") c c_tup 1 rfl T.z_tuple (by decide +kernel) (da_cons (de_lc c (lc_ok c [(".0", 4), ("_law_k", 5)] [4, 5, 2, 0] [4, 5] ["_law_draw"] ["_law_mode", "_law_pen"] (by decide +kernel) (di_range1 c 2 rfl T.z_range (da_cons (de_var c 3 rfl (by decide)) da_nil)) (by decide) (fun _ c2 => (dg_name c2 [4, 5] 5 rfl (by decide) (by decide))) (fun _ c2 => dts_nil) (fun _ c2 => (de_bin o_add de_int (de_fn c2 (h__law_draw.up (by decide)) 0 rfl (da_cons (de_var c2 0 rfl (by decide)) (da_cons (de_ix c2.roomH (de_lst (da_cons de_int (da_cons de_int (da_cons de_int da_nil)))) (de_var c2 2 rfl (by decide)) (fun _ _ => rfl)) da_nil))))))) da_nil)))))
theorem h__law_longs {M : Md} (T : Hs M) (h__law_draw : Has M false 2 "_law_draw" ["_law_pen", "_law_many"] m__law_draw) (F : TopFn M "_law_longs" s__law_longs ["_law_pen", "_law_most"]) : Has M false 3 "_law_longs" ["_law_pen", "_law_most"] m__law_longs := has_of F sc__law_longs t__law_longs rfl rfl (fun X c => b__law_longs T h__law_draw c)
abbrev s__law_joints : Stmt := topS 79
def B__law_joints : Tb := ⟨["_law_pen", "_law_low"], [0, 1], [0, 1], [0, 1], ["_law_draw", "min"], [], true, false, none⟩
theorem sc__law_joints : FnScope B__law_joints.N ["_law_pen"] (defScope s__law_joints) := ⟨rfl, rfl, rfl, by decide +kernel, rfl, by decide +kernel, by decide +kernel⟩
theorem t__law_joints : fnT B__law_joints (defScope s__law_joints) = true := by decide +kernel
noncomputable def d__law_joints : En → Sto → SR :=
    (sSeq (sSet 1 (eOp2 ixD (eLst (aCons (eK (.int 0)) (aCons (eK (.int 1)) (aCons (eCall m__law_draw (aCons (eVar 0) (aCons (eK (.int 10)) aNil))) aNil)))) (eCall m__law_draw (aCons (eVar 0) (aCons (eK (.int 3)) aNil)))))
    (sRet (eTup (aCons (eVar 1) (aCons (eOp2 addD (eVar 1) (eCall m__law_draw (aCons (eVar 0) (aCons (eOp2 ixD (eLst (aCons (eOp2 subD (eK (.int 10)) (eVar 1)) (aCons (eOpN min2F (aCons (eK (.int 3)) (aCons (eOp2 subD (eK (.int 10)) (eVar 1)) aNil))) aNil))) (eCall m__law_draw (aCons (eVar 0) (aCons (eK (.int 2)) aNil)))) aNil)))) aNil)))))
noncomputable def m__law_joints : List Wv → Sto → Rs Wv := mkF 1 2 d__law_joints
theorem b__law_joints {M : Md} {X : Cx} (T : Hs M) (h__law_draw : Has M false 2 "_law_draw" ["_law_pen", "_law_many"] m__law_draw) (c : Cxt M X B__law_joints 2) : DB X (defBody s__law_joints) d__law_joints :=
    (db_cons (ds_set c 1 rfl (by decide) (de_ix c.roomH (de_lst (da_cons de_int (da_cons de_int (da_cons (de_fn c (h__law_draw.up (by decide)) 0 rfl (da_cons (de_var c 0 rfl (by decide)) (da_cons de_int da_nil))) da_nil)))) (de_fn c (h__law_draw.up (by decide)) 0 rfl (da_cons (de_var c 0 rfl (by decide)) (da_cons de_int da_nil))) (fun _ _ => rfl)))
    (db_one (ds_ret (de_tup (da_cons (de_var c 1 rfl (by decide)) (da_cons (de_bin o_add (de_var c 1 rfl (by decide)) (de_fn c (h__law_draw.up (by decide)) 0 rfl (da_cons (de_var c 0 rfl (by decide)) (da_cons (de_ix c.roomH (de_lst (da_cons (de_bin o_sub de_int (de_var c 1 rfl (by decide))) (da_cons (de_callB (id := "min") c (c_min2 c.calm) 1 rfl T.z_min (by decide +kernel) (da_cons de_int (da_cons (de_bin o_sub de_int (de_var c 1 rfl (by decide))) da_nil))) da_nil))) (de_fn c (h__law_draw.up (by decide)) 0 rfl (da_cons (de_var c 0 rfl (by decide)) (da_cons de_int da_nil))) (fun _ _ => rfl)) da_nil)))) da_nil))))))
theorem h__law_joints {M : Md} (T : Hs M) (h__law_draw : Has M false 2 "_law_draw" ["_law_pen", "_law_many"] m__law_draw) (F : TopFn M "_law_joints" s__law_joints ["_law_pen"]) : Has M false 3 "_law_joints" ["_law_pen"] m__law_joints := has_of F sc__law_joints t__law_joints rfl rfl (fun X c => b__law_joints T h__law_draw c)
abbrev s__law_flags : Stmt := topS 81
def B__law_flags : Tb := ⟨["_law_e", "_law_marks", "_law_words_here", "_law_word_here"], [0, 1, 2, 3], [0, 1, 2, 3], [0, 1, 2, 3], ["isinstance", "NoPath", "NoWidth", "NoPlace", "NoNumber", "NoJoints", "NoLongs", "NoSpan", "NoLaying", "NoRow", "NoStone", "NoFit", "Missing", "Nothing", "NoStock", "NoDrawing", "NoWants", "NoLots", "NoOrder", "NoPanel", "NoShift", "NoLine", "NoStrip", "TooGreat", "Short", "Over", "NoText", "ValueError", "LookupError", "TypeError", "ArithmeticError", "RuntimeError"], [], true, false, none⟩
theorem sc__law_flags : FnScope B__law_flags.N ["_law_e"] (defScope s__law_flags) := ⟨rfl, rfl, rfl, by decide +kernel, rfl, by decide +kernel, by decide +kernel⟩
theorem t__law_flags : fnT B__law_flags (defScope s__law_flags) = true := by decide +kernel
noncomputable def d__law_flags (ea : Addr) (xn : Str) (d : Option Addr) : En → Sto → SR :=
    (sSeq (sSet 1 (eLst (aCons (eIsx ea xn d (decide (xn = "NoPath")) 0) (aCons (eIsx ea xn d (decide (xn = "NoWidth")) 0) (aCons (eIsx ea xn d (decide (xn = "NoPlace")) 0) (aCons (eIsx ea xn d (decide (xn = "NoNumber")) 0) aNil))))))
    (sSeq (sSet 1 (eOp2 addD (eVar 1) (eLst (aCons (eIsx ea xn d (decide (xn = "NoJoints")) 0) (aCons (eIsx ea xn d (decide (xn = "NoLongs")) 0) (aCons (eIsx ea xn d (decide (xn = "NoSpan")) 0) (aCons (eIsx ea xn d (decide (xn = "NoLaying")) 0) aNil)))))))
    (sSeq (sSet 1 (eOp2 addD (eVar 1) (eLst (aCons (eIsx ea xn d (decide (xn = "NoRow")) 0) (aCons (eIsx ea xn d (decide (xn = "NoStone")) 0) (aCons (eIsx ea xn d (decide (xn = "NoFit")) 0) (aCons (eIsx ea xn d (decide (xn = "Missing")) 0) aNil)))))))
    (sSeq (sSet 1 (eOp2 addD (eVar 1) (eLst (aCons (eIsx ea xn d (decide (xn = "Nothing")) 0) (aCons (eIsx ea xn d (decide (xn = "NoStock")) 0) (aCons (eIsx ea xn d (decide (xn = "NoDrawing")) 0) (aCons (eIsx ea xn d (decide (xn = "NoWants")) 0) aNil)))))))
    (sSeq (sSet 1 (eOp2 addD (eVar 1) (eLst (aCons (eIsx ea xn d (decide (xn = "NoLots")) 0) (aCons (eIsx ea xn d (decide (xn = "NoOrder")) 0) (aCons (eIsx ea xn d (decide (xn = "NoPanel")) 0) (aCons (eIsx ea xn d (decide (xn = "NoShift")) 0) aNil)))))))
    (sSeq (sSet 1 (eOp2 addD (eVar 1) (eLst (aCons (eIsx ea xn d (decide (xn = "NoLine")) 0) (aCons (eIsx ea xn d (decide (xn = "NoStrip")) 0) (aCons (eIsx ea xn d (decide (xn = "TooGreat")) 0) (aCons (eIsx ea xn d (decide (xn = "Short")) 0) aNil)))))))
    (sSeq (sSet 1 (eOp2 addD (eVar 1) (eLst (aCons (eIsx ea xn d (decide (xn = "Over")) 0) (aCons (eIsx ea xn d (decide (xn = "NoText")) 0) aNil)))))
    (sSeq (sIf (tOr2 (tNot1 (tTru (eIsx ea xn d true 0))) (tTru (eIsx ea xn d false 0))) (sRet (eTup (aCons (eK (.str "other")) aNil))) sNil)
    (sSeq (sIf (tBl (eOp2 neD (eMd cntD (eVar 1) (aCons (eK (.bool true)) aNil)) (eK (.int 1)))) (sRet (eTup (aCons (eK (.str "other")) aNil))) sNil)
    (sSeq (sSet 2 (eLst (aCons (eK (.str "path")) (aCons (eK (.str "width")) (aCons (eK (.str "place")) (aCons (eK (.str "number")) (aCons (eK (.str "joints")) (aCons (eK (.str "longs")) (aCons (eK (.str "span")) (aCons (eK (.str "laying")) (aCons (eK (.str "row")) (aCons (eK (.str "stone")) (aCons (eK (.str "fit")) (aCons (eK (.str "missing")) aNil))))))))))))))
    (sSeq (sSet 2 (eOp2 addD (eVar 2) (eLst (aCons (eK (.str "nothing")) (aCons (eK (.str "stock")) (aCons (eK (.str "drawing")) (aCons (eK (.str "wants")) (aCons (eK (.str "lots")) (aCons (eK (.str "order")) (aCons (eK (.str "panel")) (aCons (eK (.str "shift")) (aCons (eK (.str "line")) (aCons (eK (.str "strip")) aNil)))))))))))))
    (sSeq (sSet 3 (eOp2 ixD (eOp2 addD (eVar 2) (eLst (aCons (eK (.str "great")) (aCons (eK (.str "short")) (aCons (eK (.str "over")) (aCons (eK (.str "text")) aNil)))))) (eMd idxD (eVar 1) (aCons (eK (.bool true)) aNil))))
    (sSeq (sIf (tBl (eOp2 eqD (eVar 3) (eK (.str "strip")))) (sRet (eTup (aCons (eVar 3) (aCons (eXfO fldX ea xn d "leg" 0) aNil)))) sNil)
    (sSeq (sIf (tBl (eOp2 eqD (eVar 3) (eK (.str "great")))) (sRet (eTup (aCons (eVar 3) (aCons (eXfO fldX ea xn d "many" 0) (aCons (eXfO fldX ea xn d "most" 0) aNil))))) sNil)
    (sSeq (sIf (tBl (eOp2 eqD (eVar 3) (eK (.str "short")))) (sRet (eTup (aCons (eVar 3) (aCons (eXfO fldX ea xn d "shade" 0) (aCons (eXfO fldX ea xn d "batch" 0) (aCons (eXfO fldX ea xn d "long" 0) (aCons (eXfO fldX ea xn d "by" 0) aNil))))))) sNil)
    (sSeq (sIf (tBl (eOp2 eqD (eVar 3) (eK (.str "over")))) (sRet (eTup (aCons (eVar 3) (aCons (eXfO fldX ea xn d "row" 0) (aCons (eXfO fldX ea xn d "stone" 0) (aCons (eXfO fldX ea xn d "other" 0) (aCons (eXfO fldX ea xn d "second" 0) aNil))))))) sNil)
    (sRet (eIf (tBl (eOp2 eqD (eVar 3) (eK (.str "text")))) (eTup (aCons (eVar 3) (aCons (eXfO fldX ea xn d "word" 0) aNil))) (eTup (aCons (eVar 3) aNil))))))))))))))))))))
abbrev FlT (M : Md) : Prop := FlFn M "_law_flags" 0 4 d__law_flags (XcA M "StoneError" ysX fldX)
theorem b__law_flags {M : Md} {X : Cx} {ea C : Addr} {xn : Str} {d : Option Addr} (T : Hs M) (E : XcA M "StoneError" ysX fldX xn C) (c : Cxh M X B__law_flags 0 ea xn C d) : DB X (defBody s__law_flags) (d__law_flags ea xn d) :=
    (db_cons (dsh_set c 1 rfl (by decide) (de_lst (da_cons (deh_isO c E.exc 0 1 0 rfl (by decide) rfl T.z_isinstance rfl (E.own _ (by decide))) (da_cons (deh_isO c E.exc 0 2 0 rfl (by decide) rfl T.z_isinstance rfl (E.own _ (by decide))) (da_cons (deh_isO c E.exc 0 3 0 rfl (by decide) rfl T.z_isinstance rfl (E.own _ (by decide))) (da_cons (deh_isO c E.exc 0 4 0 rfl (by decide) rfl T.z_isinstance rfl (E.own _ (by decide))) da_nil))))))
    (db_cons (dsh_set c 1 rfl (by decide) (de_bin o_add (deh_var c 1 rfl (by decide)) (de_lst (da_cons (deh_isO c E.exc 0 5 0 rfl (by decide) rfl T.z_isinstance rfl (E.own _ (by decide))) (da_cons (deh_isO c E.exc 0 6 0 rfl (by decide) rfl T.z_isinstance rfl (E.own _ (by decide))) (da_cons (deh_isO c E.exc 0 7 0 rfl (by decide) rfl T.z_isinstance rfl (E.own _ (by decide))) (da_cons (deh_isO c E.exc 0 8 0 rfl (by decide) rfl T.z_isinstance rfl (E.own _ (by decide))) da_nil)))))))
    (db_cons (dsh_set c 1 rfl (by decide) (de_bin o_add (deh_var c 1 rfl (by decide)) (de_lst (da_cons (deh_isO c E.exc 0 9 0 rfl (by decide) rfl T.z_isinstance rfl (E.own _ (by decide))) (da_cons (deh_isO c E.exc 0 10 0 rfl (by decide) rfl T.z_isinstance rfl (E.own _ (by decide))) (da_cons (deh_isO c E.exc 0 11 0 rfl (by decide) rfl T.z_isinstance rfl (E.own _ (by decide))) (da_cons (deh_isO c E.exc 0 12 0 rfl (by decide) rfl T.z_isinstance rfl (E.own _ (by decide))) da_nil)))))))
    (db_cons (dsh_set c 1 rfl (by decide) (de_bin o_add (deh_var c 1 rfl (by decide)) (de_lst (da_cons (deh_isO c E.exc 0 13 0 rfl (by decide) rfl T.z_isinstance rfl (E.own _ (by decide))) (da_cons (deh_isO c E.exc 0 14 0 rfl (by decide) rfl T.z_isinstance rfl (E.own _ (by decide))) (da_cons (deh_isO c E.exc 0 15 0 rfl (by decide) rfl T.z_isinstance rfl (E.own _ (by decide))) (da_cons (deh_isO c E.exc 0 16 0 rfl (by decide) rfl T.z_isinstance rfl (E.own _ (by decide))) da_nil)))))))
    (db_cons (dsh_set c 1 rfl (by decide) (de_bin o_add (deh_var c 1 rfl (by decide)) (de_lst (da_cons (deh_isO c E.exc 0 17 0 rfl (by decide) rfl T.z_isinstance rfl (E.own _ (by decide))) (da_cons (deh_isO c E.exc 0 18 0 rfl (by decide) rfl T.z_isinstance rfl (E.own _ (by decide))) (da_cons (deh_isO c E.exc 0 19 0 rfl (by decide) rfl T.z_isinstance rfl (E.own _ (by decide))) (da_cons (deh_isO c E.exc 0 20 0 rfl (by decide) rfl T.z_isinstance rfl (E.own _ (by decide))) da_nil)))))))
    (db_cons (dsh_set c 1 rfl (by decide) (de_bin o_add (deh_var c 1 rfl (by decide)) (de_lst (da_cons (deh_isO c E.exc 0 21 0 rfl (by decide) rfl T.z_isinstance rfl (E.own _ (by decide))) (da_cons (deh_isO c E.exc 0 22 0 rfl (by decide) rfl T.z_isinstance rfl (E.own _ (by decide))) (da_cons (deh_isO c E.exc 0 23 0 rfl (by decide) rfl T.z_isinstance rfl (E.own _ (by decide))) (da_cons (deh_isO c E.exc 0 24 0 rfl (by decide) rfl T.z_isinstance rfl (E.own _ (by decide))) da_nil)))))))
    (db_cons (dsh_set c 1 rfl (by decide) (de_bin o_add (deh_var c 1 rfl (by decide)) (de_lst (da_cons (deh_isO c E.exc 0 25 0 rfl (by decide) rfl T.z_isinstance rfl (E.own _ (by decide))) (da_cons (deh_isO c E.exc 0 26 0 rfl (by decide) rfl T.z_isinstance rfl (E.own _ (by decide))) da_nil)))))
    (db_cons (ds_if (DW.dt (dw_or (dt_not (dt_val (deh_isb (p5 := ⟨0, 0, 0, 0⟩) c E.exc 0 27 0 rfl (by decide) rfl T.z_isinstance rfl T.z_ValueError PyProof.Rows.Boot.«ValueError» E.ve))) (dw_or1 (dt_val (deh_ist c E.exc 0 0 (j1 := 28) (j2 := 29) (j3 := 30) (j4 := 31) rfl (by decide) rfl T.z_isinstance rfl rfl rfl rfl T.z_LookupError T.z_TypeError T.z_ArithmeticError T.z_RuntimeError PyProof.Rows.Boot.«LookupError» PyProof.Rows.Boot.«TypeError» PyProof.Rows.Boot.«ArithmeticError» PyProof.Rows.Boot.«RuntimeError» (by decide) (by decide) (by decide) (by decide) E.no4))))) (db_one (ds_ret (de_tup (da_cons de_str da_nil)))) db_nil)
    (db_cons (ds_if (dt_cmp (o_ne c.roomH) (deh_count c.roomH (deh_var c 1 rfl (by decide)) (da_cons de_bl da_nil)) de_int (nomark _)) (db_one (ds_ret (de_tup (da_cons de_str da_nil)))) db_nil)
    (db_cons (dsh_set c 2 rfl (by decide) (de_lst (da_cons de_str (da_cons de_str (da_cons de_str (da_cons de_str (da_cons de_str (da_cons de_str (da_cons de_str (da_cons de_str (da_cons de_str (da_cons de_str (da_cons de_str (da_cons de_str da_nil))))))))))))))
    (db_cons (dsh_set c 2 rfl (by decide) (de_bin o_add (deh_var c 2 rfl (by decide)) (de_lst (da_cons de_str (da_cons de_str (da_cons de_str (da_cons de_str (da_cons de_str (da_cons de_str (da_cons de_str (da_cons de_str (da_cons de_str (da_cons de_str da_nil)))))))))))))
    (db_cons (dsh_set c 3 rfl (by decide) (de_ix c.roomH (de_bin o_add (deh_var c 2 rfl (by decide)) (de_lst (da_cons de_str (da_cons de_str (da_cons de_str (da_cons de_str da_nil)))))) (deh_index (deh_var c 1 rfl (by decide)) (da_cons de_bl da_nil)) (fun _ _ => rfl)))
    (db_cons (ds_if (dt_cmp (o_eq c.roomH) (deh_var c 3 rfl (by decide)) de_str (nomark _)) (db_one (ds_ret (de_tup (da_cons (deh_var c 3 rfl (by decide)) (da_cons (deh_xfO c E 0 rfl (by decide)) da_nil))))) db_nil)
    (db_cons (ds_if (dt_cmp (o_eq c.roomH) (deh_var c 3 rfl (by decide)) de_str (nomark _)) (db_one (ds_ret (de_tup (da_cons (deh_var c 3 rfl (by decide)) (da_cons (deh_xfO c E 0 rfl (by decide)) (da_cons (deh_xfO c E 0 rfl (by decide)) da_nil)))))) db_nil)
    (db_cons (ds_if (dt_cmp (o_eq c.roomH) (deh_var c 3 rfl (by decide)) de_str (nomark _)) (db_one (ds_ret (de_tup (da_cons (deh_var c 3 rfl (by decide)) (da_cons (deh_xfO c E 0 rfl (by decide)) (da_cons (deh_xfO c E 0 rfl (by decide)) (da_cons (deh_xfO c E 0 rfl (by decide)) (da_cons (deh_xfO c E 0 rfl (by decide)) da_nil)))))))) db_nil)
    (db_cons (ds_if (dt_cmp (o_eq c.roomH) (deh_var c 3 rfl (by decide)) de_str (nomark _)) (db_one (ds_ret (de_tup (da_cons (deh_var c 3 rfl (by decide)) (da_cons (deh_xfO c E 0 rfl (by decide)) (da_cons (deh_xfO c E 0 rfl (by decide)) (da_cons (deh_xfO c E 0 rfl (by decide)) (da_cons (deh_xfO c E 0 rfl (by decide)) da_nil)))))))) db_nil)
    (db_one (ds_ret (de_if (dt_cmp (o_eq c.roomH) (deh_var c 3 rfl (by decide)) de_str (nomark _)) (de_tup (da_cons (deh_var c 3 rfl (by decide)) (da_cons (deh_xfO c E 0 rfl (by decide)) da_nil))) (de_tup (da_cons (deh_var c 3 rfl (by decide)) da_nil)))))))))))))))))))))
theorem h__law_flags {M : Md} (T : Hs M) (F : TopFn M "_law_flags" s__law_flags ["_law_e"]) : FlT M := flfn_of F sc__law_flags t__law_flags rfl fun ea C xn d E X c => b__law_flags T E c
abbrev s__law_word : Stmt := topS 82
theorem sc__law_word : FnScope ["_law_call", "_law_e"] ["_law_call"] (defScope s__law_word) := ⟨rfl, rfl, rfl, by decide +kernel, rfl, by decide +kernel, by decide +kernel⟩
abbrev told__law_word : Option Str := some "told"
def flT__law_word : FlTab := [("NoJoints", "joints", []), ("NoLongs", "longs", []), ("NoNumber", "number", []), ("NoSpan", "span", [])]
def fl__law_word : Xc → Option PyData := flL flT__law_word
theorem fv_NoJoints : FvOk 4 d__law_flags "NoJoints" "joints" [] := fv_0 fun ea p st => by
  have hc : cntD (.list [.bool false, .bool false, .bool false, .bool false, .bool true, .bool false, .bool false, .bool false, .bool false, .bool false, .bool false, .bool false, .bool false, .bool false, .bool false, .bool false, .bool false, .bool false, .bool false, .bool false, .bool false, .bool false, .bool false, .bool false, .bool false, .bool false]) [.bool true] = some (.int 1) := rfl
  have hi : idxD (.list [.bool false, .bool false, .bool false, .bool false, .bool true, .bool false, .bool false, .bool false, .bool false, .bool false, .bool false, .bool false, .bool false, .bool false, .bool false, .bool false, .bool false, .bool false, .bool false, .bool false, .bool false, .bool false, .bool false, .bool false, .bool false, .bool false]) [.bool true] = some (.int 4) := rfl
  have hw : atD ([.str "path", .str "width", .str "place", .str "number", .str "joints", .str "longs", .str "span", .str "laying", .str "row", .str "stone", .str "fit", .str "missing", .str "nothing", .str "stock", .str "drawing", .str "wants", .str "lots", .str "order", .str "panel", .str "shift", .str "line", .str "strip", .str "great", .str "short", .str "over", .str "text"] : List PyData) 4 = some (.str "joints") := rfl
  unfold mkF d__law_flags
  simp -implicitDefEqProofs [sh_isx, lstW, tupW, show decide (("NoJoints" : Str) = "NoPath") = false from by decide +kernel, show decide (("NoJoints" : Str) = "NoWidth") = false from by decide +kernel, show decide (("NoJoints" : Str) = "NoPlace") = false from by decide +kernel, show decide (("NoJoints" : Str) = "NoNumber") = false from by decide +kernel, show decide (("NoJoints" : Str) = "NoLongs") = false from by decide +kernel, show decide (("NoJoints" : Str) = "NoSpan") = false from by decide +kernel, show decide (("NoJoints" : Str) = "NoLaying") = false from by decide +kernel, show decide (("NoJoints" : Str) = "NoRow") = false from by decide +kernel, show decide (("NoJoints" : Str) = "NoStone") = false from by decide +kernel, show decide (("NoJoints" : Str) = "NoFit") = false from by decide +kernel, show decide (("NoJoints" : Str) = "Missing") = false from by decide +kernel, show decide (("NoJoints" : Str) = "Nothing") = false from by decide +kernel, show decide (("NoJoints" : Str) = "NoStock") = false from by decide +kernel, show decide (("NoJoints" : Str) = "NoDrawing") = false from by decide +kernel, show decide (("NoJoints" : Str) = "NoWants") = false from by decide +kernel, show decide (("NoJoints" : Str) = "NoLots") = false from by decide +kernel, show decide (("NoJoints" : Str) = "NoOrder") = false from by decide +kernel, show decide (("NoJoints" : Str) = "NoPanel") = false from by decide +kernel, show decide (("NoJoints" : Str) = "NoShift") = false from by decide +kernel, show decide (("NoJoints" : Str) = "NoLine") = false from by decide +kernel, show decide (("NoJoints" : Str) = "NoStrip") = false from by decide +kernel, show decide (("NoJoints" : Str) = "TooGreat") = false from by decide +kernel, show decide (("NoJoints" : Str) = "Short") = false from by decide +kernel, show decide (("NoJoints" : Str) = "Over") = false from by decide +kernel, show decide (("NoJoints" : Str) = "NoText") = false from by decide +kernel, hc, hi, hw, show (("joints" : Str) == "strip") = false from by decide +kernel, show (("joints" : Str) == "great") = false from by decide +kernel, show (("joints" : Str) == "short") = false from by decide +kernel, show (("joints" : Str) == "over") = false from by decide +kernel, show (("joints" : Str) == "text") = false from by decide +kernel]
theorem fv_NoLongs : FvOk 4 d__law_flags "NoLongs" "longs" [] := fv_0 fun ea p st => by
  have hc : cntD (.list [.bool false, .bool false, .bool false, .bool false, .bool false, .bool true, .bool false, .bool false, .bool false, .bool false, .bool false, .bool false, .bool false, .bool false, .bool false, .bool false, .bool false, .bool false, .bool false, .bool false, .bool false, .bool false, .bool false, .bool false, .bool false, .bool false]) [.bool true] = some (.int 1) := rfl
  have hi : idxD (.list [.bool false, .bool false, .bool false, .bool false, .bool false, .bool true, .bool false, .bool false, .bool false, .bool false, .bool false, .bool false, .bool false, .bool false, .bool false, .bool false, .bool false, .bool false, .bool false, .bool false, .bool false, .bool false, .bool false, .bool false, .bool false, .bool false]) [.bool true] = some (.int 5) := rfl
  have hw : atD ([.str "path", .str "width", .str "place", .str "number", .str "joints", .str "longs", .str "span", .str "laying", .str "row", .str "stone", .str "fit", .str "missing", .str "nothing", .str "stock", .str "drawing", .str "wants", .str "lots", .str "order", .str "panel", .str "shift", .str "line", .str "strip", .str "great", .str "short", .str "over", .str "text"] : List PyData) 5 = some (.str "longs") := rfl
  unfold mkF d__law_flags
  simp -implicitDefEqProofs [sh_isx, lstW, tupW, show decide (("NoLongs" : Str) = "NoPath") = false from by decide +kernel, show decide (("NoLongs" : Str) = "NoWidth") = false from by decide +kernel, show decide (("NoLongs" : Str) = "NoPlace") = false from by decide +kernel, show decide (("NoLongs" : Str) = "NoNumber") = false from by decide +kernel, show decide (("NoLongs" : Str) = "NoJoints") = false from by decide +kernel, show decide (("NoLongs" : Str) = "NoSpan") = false from by decide +kernel, show decide (("NoLongs" : Str) = "NoLaying") = false from by decide +kernel, show decide (("NoLongs" : Str) = "NoRow") = false from by decide +kernel, show decide (("NoLongs" : Str) = "NoStone") = false from by decide +kernel, show decide (("NoLongs" : Str) = "NoFit") = false from by decide +kernel, show decide (("NoLongs" : Str) = "Missing") = false from by decide +kernel, show decide (("NoLongs" : Str) = "Nothing") = false from by decide +kernel, show decide (("NoLongs" : Str) = "NoStock") = false from by decide +kernel, show decide (("NoLongs" : Str) = "NoDrawing") = false from by decide +kernel, show decide (("NoLongs" : Str) = "NoWants") = false from by decide +kernel, show decide (("NoLongs" : Str) = "NoLots") = false from by decide +kernel, show decide (("NoLongs" : Str) = "NoOrder") = false from by decide +kernel, show decide (("NoLongs" : Str) = "NoPanel") = false from by decide +kernel, show decide (("NoLongs" : Str) = "NoShift") = false from by decide +kernel, show decide (("NoLongs" : Str) = "NoLine") = false from by decide +kernel, show decide (("NoLongs" : Str) = "NoStrip") = false from by decide +kernel, show decide (("NoLongs" : Str) = "TooGreat") = false from by decide +kernel, show decide (("NoLongs" : Str) = "Short") = false from by decide +kernel, show decide (("NoLongs" : Str) = "Over") = false from by decide +kernel, show decide (("NoLongs" : Str) = "NoText") = false from by decide +kernel, hc, hi, hw, show (("longs" : Str) == "strip") = false from by decide +kernel, show (("longs" : Str) == "great") = false from by decide +kernel, show (("longs" : Str) == "short") = false from by decide +kernel, show (("longs" : Str) == "over") = false from by decide +kernel, show (("longs" : Str) == "text") = false from by decide +kernel]
theorem fv_NoNumber : FvOk 4 d__law_flags "NoNumber" "number" [] := fv_0 fun ea p st => by
  have hc : cntD (.list [.bool false, .bool false, .bool false, .bool true, .bool false, .bool false, .bool false, .bool false, .bool false, .bool false, .bool false, .bool false, .bool false, .bool false, .bool false, .bool false, .bool false, .bool false, .bool false, .bool false, .bool false, .bool false, .bool false, .bool false, .bool false, .bool false]) [.bool true] = some (.int 1) := rfl
  have hi : idxD (.list [.bool false, .bool false, .bool false, .bool true, .bool false, .bool false, .bool false, .bool false, .bool false, .bool false, .bool false, .bool false, .bool false, .bool false, .bool false, .bool false, .bool false, .bool false, .bool false, .bool false, .bool false, .bool false, .bool false, .bool false, .bool false, .bool false]) [.bool true] = some (.int 3) := rfl
  have hw : atD ([.str "path", .str "width", .str "place", .str "number", .str "joints", .str "longs", .str "span", .str "laying", .str "row", .str "stone", .str "fit", .str "missing", .str "nothing", .str "stock", .str "drawing", .str "wants", .str "lots", .str "order", .str "panel", .str "shift", .str "line", .str "strip", .str "great", .str "short", .str "over", .str "text"] : List PyData) 3 = some (.str "number") := rfl
  unfold mkF d__law_flags
  simp -implicitDefEqProofs [sh_isx, lstW, tupW, show decide (("NoNumber" : Str) = "NoPath") = false from by decide +kernel, show decide (("NoNumber" : Str) = "NoWidth") = false from by decide +kernel, show decide (("NoNumber" : Str) = "NoPlace") = false from by decide +kernel, show decide (("NoNumber" : Str) = "NoJoints") = false from by decide +kernel, show decide (("NoNumber" : Str) = "NoLongs") = false from by decide +kernel, show decide (("NoNumber" : Str) = "NoSpan") = false from by decide +kernel, show decide (("NoNumber" : Str) = "NoLaying") = false from by decide +kernel, show decide (("NoNumber" : Str) = "NoRow") = false from by decide +kernel, show decide (("NoNumber" : Str) = "NoStone") = false from by decide +kernel, show decide (("NoNumber" : Str) = "NoFit") = false from by decide +kernel, show decide (("NoNumber" : Str) = "Missing") = false from by decide +kernel, show decide (("NoNumber" : Str) = "Nothing") = false from by decide +kernel, show decide (("NoNumber" : Str) = "NoStock") = false from by decide +kernel, show decide (("NoNumber" : Str) = "NoDrawing") = false from by decide +kernel, show decide (("NoNumber" : Str) = "NoWants") = false from by decide +kernel, show decide (("NoNumber" : Str) = "NoLots") = false from by decide +kernel, show decide (("NoNumber" : Str) = "NoOrder") = false from by decide +kernel, show decide (("NoNumber" : Str) = "NoPanel") = false from by decide +kernel, show decide (("NoNumber" : Str) = "NoShift") = false from by decide +kernel, show decide (("NoNumber" : Str) = "NoLine") = false from by decide +kernel, show decide (("NoNumber" : Str) = "NoStrip") = false from by decide +kernel, show decide (("NoNumber" : Str) = "TooGreat") = false from by decide +kernel, show decide (("NoNumber" : Str) = "Short") = false from by decide +kernel, show decide (("NoNumber" : Str) = "Over") = false from by decide +kernel, show decide (("NoNumber" : Str) = "NoText") = false from by decide +kernel, hc, hi, hw, show (("number" : Str) == "strip") = false from by decide +kernel, show (("number" : Str) == "great") = false from by decide +kernel, show (("number" : Str) == "short") = false from by decide +kernel, show (("number" : Str) == "over") = false from by decide +kernel, show (("number" : Str) == "text") = false from by decide +kernel]
theorem fv_NoSpan : FvOk 4 d__law_flags "NoSpan" "span" [] := fv_0 fun ea p st => by
  have hc : cntD (.list [.bool false, .bool false, .bool false, .bool false, .bool false, .bool false, .bool true, .bool false, .bool false, .bool false, .bool false, .bool false, .bool false, .bool false, .bool false, .bool false, .bool false, .bool false, .bool false, .bool false, .bool false, .bool false, .bool false, .bool false, .bool false, .bool false]) [.bool true] = some (.int 1) := rfl
  have hi : idxD (.list [.bool false, .bool false, .bool false, .bool false, .bool false, .bool false, .bool true, .bool false, .bool false, .bool false, .bool false, .bool false, .bool false, .bool false, .bool false, .bool false, .bool false, .bool false, .bool false, .bool false, .bool false, .bool false, .bool false, .bool false, .bool false, .bool false]) [.bool true] = some (.int 6) := rfl
  have hw : atD ([.str "path", .str "width", .str "place", .str "number", .str "joints", .str "longs", .str "span", .str "laying", .str "row", .str "stone", .str "fit", .str "missing", .str "nothing", .str "stock", .str "drawing", .str "wants", .str "lots", .str "order", .str "panel", .str "shift", .str "line", .str "strip", .str "great", .str "short", .str "over", .str "text"] : List PyData) 6 = some (.str "span") := rfl
  unfold mkF d__law_flags
  simp -implicitDefEqProofs [sh_isx, lstW, tupW, show decide (("NoSpan" : Str) = "NoPath") = false from by decide +kernel, show decide (("NoSpan" : Str) = "NoWidth") = false from by decide +kernel, show decide (("NoSpan" : Str) = "NoPlace") = false from by decide +kernel, show decide (("NoSpan" : Str) = "NoNumber") = false from by decide +kernel, show decide (("NoSpan" : Str) = "NoJoints") = false from by decide +kernel, show decide (("NoSpan" : Str) = "NoLongs") = false from by decide +kernel, show decide (("NoSpan" : Str) = "NoLaying") = false from by decide +kernel, show decide (("NoSpan" : Str) = "NoRow") = false from by decide +kernel, show decide (("NoSpan" : Str) = "NoStone") = false from by decide +kernel, show decide (("NoSpan" : Str) = "NoFit") = false from by decide +kernel, show decide (("NoSpan" : Str) = "Missing") = false from by decide +kernel, show decide (("NoSpan" : Str) = "Nothing") = false from by decide +kernel, show decide (("NoSpan" : Str) = "NoStock") = false from by decide +kernel, show decide (("NoSpan" : Str) = "NoDrawing") = false from by decide +kernel, show decide (("NoSpan" : Str) = "NoWants") = false from by decide +kernel, show decide (("NoSpan" : Str) = "NoLots") = false from by decide +kernel, show decide (("NoSpan" : Str) = "NoOrder") = false from by decide +kernel, show decide (("NoSpan" : Str) = "NoPanel") = false from by decide +kernel, show decide (("NoSpan" : Str) = "NoShift") = false from by decide +kernel, show decide (("NoSpan" : Str) = "NoLine") = false from by decide +kernel, show decide (("NoSpan" : Str) = "NoStrip") = false from by decide +kernel, show decide (("NoSpan" : Str) = "TooGreat") = false from by decide +kernel, show decide (("NoSpan" : Str) = "Short") = false from by decide +kernel, show decide (("NoSpan" : Str) = "Over") = false from by decide +kernel, show decide (("NoSpan" : Str) = "NoText") = false from by decide +kernel, hc, hi, hw, show (("span" : Str) == "strip") = false from by decide +kernel, show (("span" : Str) == "great") = false from by decide +kernel, show (("span" : Str) == "short") = false from by decide +kernel, show (("span" : Str) == "over") = false from by decide +kernel, show (("span" : Str) == "text") = false from by decide +kernel]
abbrev Sd__law_word (M : Md) : Prop := SaidT M "_law_word" 0 4 told__law_word fl__law_word d__law_flags (XcA M "StoneError" ysX fldX)
theorem h__law_word {M : Md} (T : Hs M) (F : FlT M) (TF : TopFn M "_law_word" s__law_word ["_law_call"]) : Sd__law_word M := by
  obtain ⟨CS, hCS⟩ := T.e_StoneError
  refine saidT_of (CSn := "StoneError") (CS := CS) TF sc__law_word ⟨by decide, by decide⟩ hCS (fun X g cd q e1 e2 e3 e4 e5 hr => said_givesT e1 e2 e3 e4 e5 F hr sc__law_word rfl rfl rfl hCS (by decide) (by decide) (by decide) (by decide)) (flL_ok (l := flT__law_word) ?_)
  exact flL_cons T.e_NoJoints fv_NoJoints (flL_cons T.e_NoLongs fv_NoLongs (flL_cons T.e_NoNumber fv_NoNumber (flL_cons T.e_NoSpan fv_NoSpan (flL_nil))))
abbrev s__law_words : Stmt := topS 85
def B__law_words : Tb := ⟨["_law_calls_here", ".0", "_law_call"], [0], [0], [0], [], [], true, false, none⟩
theorem sc__law_words : FnScope B__law_words.N ["_law_calls_here"] (defScope s__law_words) := ⟨rfl, rfl, rfl, by decide +kernel, rfl, by decide +kernel, by decide +kernel⟩
theorem t__law_words : fnT B__law_words (defScope s__law_words) = true := by decide +kernel
theorem h__law_words {M : Md} (T : Hs M) (S__law_word : Sd__law_word M) (F : TopFn M "_law_words" s__law_words ["_law_calls_here"]) : WordsF M false 10 7 "_law_words" ["_law_calls_here"] told__law_word fl__law_word := wordsF_of F sc__law_words t__law_words rfl rfl (fun X Y τ cls c hn y P hx => pss_one (ps_ret (pe_lams2 (kb := 7) (own := [(".0", 1), ("_law_call", 2)]) (us := [1, 2]) (ls := [1, 2]) (gs := ["_law_word"]) (cs := []) (i := 2) (jc := 0) (jg := 0) c S__law_word (by decide +kernel) rfl (by decide) rfl (by decide) (by decide) (by decide) rfl (by decide) (by decide) hn y P hx (by decide) (by decide) (by decide) (by decide) (by decide))))
abbrev s_fits : Stmt := topS 47
def B_fits : Tb := ⟨["longs", "span", "joints"], [0, 1, 2], [0, 1, 2], [0, 1, 2], ["need_all", "fit"], [], true, false, none⟩
theorem sc_fits : FnScope B_fits.N ["longs", "span", "joints"] (defScope s_fits) := ⟨rfl, rfl, rfl, by decide +kernel, rfl, by decide +kernel, by decide +kernel⟩
theorem t_fits : fnT B_fits (defScope s_fits) = true := by decide +kernel
noncomputable def d_fits : En → Sto → SR :=
    (sSeq (sExp (eCall m_need_all (aCons (eVar 0) (aCons (eVar 1) (aCons (eVar 2) aNil)))))
    (sRet (eCall m_fit (aCons (eVar 0) (aCons (eVar 1) (aCons (eVar 2) aNil))))))
noncomputable def m_fits : List Wv → Sto → Rs Wv := mkF 3 3 d_fits
theorem b_fits {M : Md} {X : Cx} (T : Hs M) (h_fit : Has M false 2 "fit" ["longs", "span", "joints"] m_fit) (h_need_all : Has M false 5 "need_all" ["longs", "span", "joints"] m_need_all) (c : Cxt M X B_fits 5) : DB X (defBody s_fits) d_fits :=
    (db_cons (ds_exp (de_fn c (h_need_all.up (by decide)) 0 rfl (da_cons (de_var c 0 rfl (by decide)) (da_cons (de_var c 1 rfl (by decide)) (da_cons (de_var c 2 rfl (by decide)) da_nil)))))
    (db_one (ds_ret (de_fn c (h_fit.up (by decide)) 1 rfl (da_cons (de_var c 0 rfl (by decide)) (da_cons (de_var c 1 rfl (by decide)) (da_cons (de_var c 2 rfl (by decide)) da_nil)))))))
theorem h_fits {M : Md} (T : Hs M) (h_fit : Has M false 2 "fit" ["longs", "span", "joints"] m_fit) (h_need_all : Has M false 5 "need_all" ["longs", "span", "joints"] m_need_all) (F : TopFn M "fits" s_fits ["longs", "span", "joints"]) : Has M false 6 "fits" ["longs", "span", "joints"] m_fits := has_of F sc_fits t_fits rfl rfl (fun X c => b_fits T h_fit h_need_all c)
abbrev s_is_laying : Stmt := topS 46
def B_is_laying : Tb := ⟨["longs", "span", "joints", "thing"], [0, 1, 2, 3], [0, 1, 2, 3], [0, 1, 2, 3], ["need_all", "is_laid"], [], true, false, none⟩
theorem sc_is_laying : FnScope B_is_laying.N ["longs", "span", "joints", "thing"] (defScope s_is_laying) := ⟨rfl, rfl, rfl, by decide +kernel, rfl, by decide +kernel, by decide +kernel⟩
theorem t_is_laying : fnT B_is_laying (defScope s_is_laying) = true := by decide +kernel
noncomputable def d_is_laying : En → Sto → SR :=
    (sSeq (sExp (eCall m_need_all (aCons (eVar 0) (aCons (eVar 1) (aCons (eVar 2) aNil)))))
    sNo)
noncomputable def m_is_laying : List Wv → Sto → Rs Wv := mkF 4 4 d_is_laying
theorem b_is_laying {M : Md} {X : Cx} (T : Hs M) (h_need_all : Has M false 5 "need_all" ["longs", "span", "joints"] m_need_all) (c : Cxt M X B_is_laying 5) : DB X (defBody s_is_laying) d_is_laying :=
    (db_cons (ds_exp (de_fn c (h_need_all.up (by decide)) 0 rfl (da_cons (de_var c 0 rfl (by decide)) (da_cons (de_var c 1 rfl (by decide)) (da_cons (de_var c 2 rfl (by decide)) da_nil)))))
    (db_one ds_no))
theorem h_is_laying {M : Md} (T : Hs M) (h_need_all : Has M false 5 "need_all" ["longs", "span", "joints"] m_need_all) (F : TopFn M "is_laying" s_is_laying ["longs", "span", "joints", "thing"]) : Has M false 6 "is_laying" ["longs", "span", "joints", "thing"] m_is_laying := has_of F sc_is_laying t_is_laying rfl rfl (fun X c => b_is_laying T h_need_all c)
abbrev s_layings_many : Stmt := topS 48
def B_layings_many : Tb := ⟨["longs", "span", "joints", "rest", "ways", "turn", ".0", "k"], [0, 1, 2, 3, 4, 5], [0, 1, 2, 3, 4, 5], [0, 1, 3, 5], ["need_all", "rest_of", "range", "len"], ["joints", "ways"], true, false, none⟩
theorem sc_layings_many : FnScope B_layings_many.N ["longs", "span", "joints"] (defScope s_layings_many) := ⟨rfl, rfl, rfl, by decide +kernel, rfl, by decide +kernel, by decide +kernel⟩
theorem t_layings_many : fnT B_layings_many (defScope s_layings_many) = true := by decide +kernel
noncomputable def d_layings_many : En → Sto → SR :=
    (sSeq (sExp (eCall m_need_all (aCons (eVar 0) (aCons (eVar 1) (aCons (eVar 2) aNil)))))
    (sSeq sNo
    (sSeq sNo
    (sSeq sNo
    (sSeq sNo
    sNo)))))
noncomputable def m_layings_many : List Wv → Sto → Rs Wv := mkF 3 8 d_layings_many
theorem b_layings_many {M : Md} {X : Cx} (T : Hs M) (h_need_all : Has M false 5 "need_all" ["longs", "span", "joints"] m_need_all) (c : Cxt M X B_layings_many 5) : DB X (defBody s_layings_many) d_layings_many :=
    (db_cons (ds_exp (de_fn c (h_need_all.up (by decide)) 0 rfl (da_cons (de_var c 0 rfl (by decide)) (da_cons (de_var c 1 rfl (by decide)) (da_cons (de_var c 2 rfl (by decide)) da_nil)))))
    (db_cons ds_no
    (db_cons ds_no
    (db_cons ds_no
    (db_cons ds_no
    (db_one ds_no))))))
theorem h_layings_many {M : Md} (T : Hs M) (h_need_all : Has M false 5 "need_all" ["longs", "span", "joints"] m_need_all) (F : TopFn M "layings_many" s_layings_many ["longs", "span", "joints"]) : Has M false 6 "layings_many" ["longs", "span", "joints"] m_layings_many := has_of F sc_layings_many t_layings_many rfl rfl (fun X c => b_layings_many T h_need_all c)
abbrev s_tight : Stmt := topS 51
def B_tight : Tb := ⟨["longs", "span", "joints", "many", "rest"], [0, 1, 2, 3, 4], [0, 1, 2, 3, 4], [0, 1, 2, 3, 4], ["need_all", "fit", "len", "rest_of"], [], true, false, none⟩
theorem sc_tight : FnScope B_tight.N ["longs", "span", "joints"] (defScope s_tight) := ⟨rfl, rfl, rfl, by decide +kernel, rfl, by decide +kernel, by decide +kernel⟩
theorem t_tight : fnT B_tight (defScope s_tight) = true := by decide +kernel
noncomputable def d_tight : En → Sto → SR :=
    (sSeq (sExp (eCall m_need_all (aCons (eVar 0) (aCons (eVar 1) (aCons (eVar 2) aNil)))))
    (sSeq sNo
    (sSeq sNo
    (sSeq sNo
    sNo))))
noncomputable def m_tight : List Wv → Sto → Rs Wv := mkF 3 5 d_tight
theorem b_tight {M : Md} {X : Cx} (T : Hs M) (h_need_all : Has M false 5 "need_all" ["longs", "span", "joints"] m_need_all) (c : Cxt M X B_tight 5) : DB X (defBody s_tight) d_tight :=
    (db_cons (ds_exp (de_fn c (h_need_all.up (by decide)) 0 rfl (da_cons (de_var c 0 rfl (by decide)) (da_cons (de_var c 1 rfl (by decide)) (da_cons (de_var c 2 rfl (by decide)) da_nil)))))
    (db_cons ds_no
    (db_cons ds_no
    (db_cons ds_no
    (db_one ds_no)))))
theorem h_tight {M : Md} (T : Hs M) (h_need_all : Has M false 5 "need_all" ["longs", "span", "joints"] m_need_all) (F : TopFn M "tight" s_tight ["longs", "span", "joints"]) : Has M false 6 "tight" ["longs", "span", "joints"] m_tight := has_of F sc_tight t_tight rfl rfl (fun X c => b_tight T h_need_all c)
abbrev s_cut_to : Stmt := topS 54
def B_cut_to : Tb := ⟨["longs", "span", "joints"], [0, 1, 2], [0, 1, 2], [0, 1, 2], ["need_all", "cut_by"], [], true, false, none⟩
theorem sc_cut_to : FnScope B_cut_to.N ["longs", "span", "joints"] (defScope s_cut_to) := ⟨rfl, rfl, rfl, by decide +kernel, rfl, by decide +kernel, by decide +kernel⟩
theorem t_cut_to : fnT B_cut_to (defScope s_cut_to) = true := by decide +kernel
noncomputable def d_cut_to : En → Sto → SR :=
    (sSeq (sExp (eCall m_need_all (aCons (eVar 0) (aCons (eVar 1) (aCons (eVar 2) aNil)))))
    sNo)
noncomputable def m_cut_to : List Wv → Sto → Rs Wv := mkF 3 3 d_cut_to
theorem b_cut_to {M : Md} {X : Cx} (T : Hs M) (h_need_all : Has M false 5 "need_all" ["longs", "span", "joints"] m_need_all) (c : Cxt M X B_cut_to 5) : DB X (defBody s_cut_to) d_cut_to :=
    (db_cons (ds_exp (de_fn c (h_need_all.up (by decide)) 0 rfl (da_cons (de_var c 0 rfl (by decide)) (da_cons (de_var c 1 rfl (by decide)) (da_cons (de_var c 2 rfl (by decide)) da_nil)))))
    (db_one ds_no))
theorem h_cut_to {M : Md} (T : Hs M) (h_need_all : Has M false 5 "need_all" ["longs", "span", "joints"] m_need_all) (F : TopFn M "cut_to" s_cut_to ["longs", "span", "joints"]) : Has M false 6 "cut_to" ["longs", "span", "joints"] m_cut_to := has_of F sc_cut_to t_cut_to rfl rfl (fun X c => b_cut_to T h_need_all c)
abbrev s__law_calls : Stmt := topS 83
def B__law_calls : Tb := ⟨["_law_longs_here", "_law_span_here", "_law_joints_here", "_law_calls_here"], [0, 1, 2, 3], [0, 1, 2, 3], [3], [], ["_law_longs_here", "_law_span_here", "_law_joints_here"], true, false, (some "_law_calls.<locals>.<lambda>")⟩
theorem sc__law_calls : FnScope B__law_calls.N ["_law_longs_here", "_law_span_here", "_law_joints_here"] (defScope s__law_calls) := ⟨rfl, rfl, rfl, by decide +kernel, rfl, by decide +kernel, by decide +kernel⟩
theorem t__law_calls : fnT B__law_calls (defScope s__law_calls) = true := by decide +kernel
noncomputable def cs__law_calls : List (En → Sto → Rs Wv) := [(eCall m_fits (aCons (eVar 0) (aCons (eVar 1) (aCons (eVar 2) aNil)))),
    (eCall m_is_laying (aCons (eVar 0) (aCons (eVar 1) (aCons (eVar 2) (aCons (eK .none) aNil))))),
    (eCall m_layings_many (aCons (eVar 0) (aCons (eVar 1) (aCons (eVar 2) aNil)))),
    (eCall m_spread (aCons (eVar 0) (aCons (eVar 1) (aCons (eVar 2) aNil)))),
    (eCall m_tight (aCons (eVar 0) (aCons (eVar 1) (aCons (eVar 2) aNil)))),
    (eCall m_cut_to (aCons (eVar 0) (aCons (eVar 1) (aCons (eVar 2) aNil))))]
theorem b__law_calls {M : Md} {X : Cx} (T : Hs M) (h_cut_to : Has M false 6 "cut_to" ["longs", "span", "joints"] m_cut_to) (h_fits : Has M false 6 "fits" ["longs", "span", "joints"] m_fits) (h_is_laying : Has M false 6 "is_laying" ["longs", "span", "joints", "thing"] m_is_laying) (h_layings_many : Has M false 6 "layings_many" ["longs", "span", "joints"] m_layings_many) (h_spread : Has M false 6 "spread" ["longs", "span", "joints"] m_spread) (h_tight : Has M false 6 "tight" ["longs", "span", "joints"] m_tight) (c : Cxt M X B__law_calls 8) : LQ X (defBody s__law_calls) (tQ0 X 7 3 cs__law_calls) :=
    (lc_start (j := 3) c rfl (by decide) (lamd_ok (kb := 7) c rfl [2, 0, 1] ["fits"] (by decide +kernel) (fun _ c4 => (de_fn c4 (h_fits.up (by decide)) 0 rfl (da_cons (de_var c4 0 rfl (by decide)) (da_cons (de_var c4 1 rfl (by decide)) (da_cons (de_var c4 2 rfl (by decide)) da_nil))))))
    (lc_app c rfl (by decide) (lamd_ok (kb := 7) c rfl [2, 0, 1] ["is_laying"] (by decide +kernel) (fun _ c5 => (de_fn c5 (h_is_laying.up (by decide)) 0 rfl (da_cons (de_var c5 0 rfl (by decide)) (da_cons (de_var c5 1 rfl (by decide)) (da_cons (de_var c5 2 rfl (by decide)) (da_cons de_non da_nil))))))) (by decide)
    (lc_app c rfl (by decide) (lamd_ok (kb := 7) c rfl [2, 0, 1] ["layings_many"] (by decide +kernel) (fun _ c6 => (de_fn c6 (h_layings_many.up (by decide)) 0 rfl (da_cons (de_var c6 0 rfl (by decide)) (da_cons (de_var c6 1 rfl (by decide)) (da_cons (de_var c6 2 rfl (by decide)) da_nil)))))) (by decide)
    (lc_app c rfl (by decide) (lamd_ok (kb := 7) c rfl [2, 0, 1] ["spread"] (by decide +kernel) (fun _ c7 => (de_fn c7 (h_spread.up (by decide)) 0 rfl (da_cons (de_var c7 0 rfl (by decide)) (da_cons (de_var c7 1 rfl (by decide)) (da_cons (de_var c7 2 rfl (by decide)) da_nil)))))) (by decide)
    (lc_app c rfl (by decide) (lamd_ok (kb := 7) c rfl [2, 0, 1] ["tight"] (by decide +kernel) (fun _ c8 => (de_fn c8 (h_tight.up (by decide)) 0 rfl (da_cons (de_var c8 0 rfl (by decide)) (da_cons (de_var c8 1 rfl (by decide)) (da_cons (de_var c8 2 rfl (by decide)) da_nil)))))) (by decide)
    (lc_app c rfl (by decide) (lamd_ok (kb := 7) c rfl [2, 0, 1] ["cut_to"] (by decide +kernel) (fun _ c9 => (de_fn c9 (h_cut_to.up (by decide)) 0 rfl (da_cons (de_var c9 0 rfl (by decide)) (da_cons (de_var c9 1 rfl (by decide)) (da_cons (de_var c9 2 rfl (by decide)) da_nil)))))) (by decide)
    (lc_ret c rfl (by decide))))))))
theorem h__law_calls {M : Md} (T : Hs M) (h_cut_to : Has M false 6 "cut_to" ["longs", "span", "joints"] m_cut_to) (h_fits : Has M false 6 "fits" ["longs", "span", "joints"] m_fits) (h_is_laying : Has M false 6 "is_laying" ["longs", "span", "joints", "thing"] m_is_laying) (h_layings_many : Has M false 6 "layings_many" ["longs", "span", "joints"] m_layings_many) (h_spread : Has M false 6 "spread" ["longs", "span", "joints"] m_spread) (h_tight : Has M false 6 "tight" ["longs", "span", "joints"] m_tight) (LT : LamT M "_law_calls" "_law_calls.<locals>.<lambda>") (F : TopFn M "_law_calls" s__law_calls ["_law_longs_here", "_law_span_here", "_law_joints_here"]) : CallsF M false 9 7 3 "_law_calls" ["_law_longs_here", "_law_span_here", "_law_joints_here"] cs__law_calls := callsF_of F sc__law_calls t__law_calls rfl rfl (fun X c => b__law_calls T h_cut_to h_fits h_is_laying h_layings_many h_spread h_tight c) (fun q e => by cases e; exact LT)
abbrev s_need_spans : Stmt := topS 57
def B_need_spans : Tb := ⟨["spans", ".0", "span"], [0], [0], [0], ["isinstance", "tuple", "len", "MOST_SPANS", "NoSpan", "all"], [], true, false, none⟩
theorem sc_need_spans : FnScope B_need_spans.N ["spans"] (defScope s_need_spans) := ⟨rfl, rfl, rfl, by decide +kernel, rfl, by decide +kernel, by decide +kernel⟩
theorem t_need_spans : fnT B_need_spans (defScope s_need_spans) = true := by decide +kernel
noncomputable def d_need_spans : En → Sto → SR :=
    (sSeq (sIf (tOr2 (tNot1 (tTru (eOp1 (isaD "tuple") (eVar 0)))) (tNot1 (tBl (eChain leD leD (eK (.int 1)) (eOpN lenF (aCons (eVar 0) aNil)) (eK w_MOST_SPANS))))) (sRaise "NoSpan") sNil)
    (sIf (tNot1 (tTru (eOpN allF (aCons (eLc (cSeq (eVar 0)) (gN 2) tYs (eCall m_is_span (aCons (eVar 2) aNil)) [1, 2]) aNil)))) (sRaise "NoSpan") sNil))
noncomputable def m_need_spans : List Wv → Sto → Rs Wv := mkF 1 3 d_need_spans
theorem b_need_spans {M : Md} {X : Cx} (T : Hs M) (h_is_span : Has M false 3 "is_span" ["thing"] m_is_span) (c : Cxt M X B_need_spans 3) : DB X (defBody s_need_spans) d_need_spans :=
    (db_cons (ds_if (DW.dt (dw_or (dt_not (dt_val (de_isa c 0 1 rfl T.z_isinstance rfl T.z_tuple (by decide +kernel) (de_var c 0 rfl (by decide))))) (dw_or1 (dt_not (dt_chain (o_le c.roomH) (o_le c.roomH) de_int (de_callB (id := "len") c c_len 2 rfl T.z_len (by decide +kernel) (da_cons (de_var c 0 rfl (by decide)) da_nil)) (q_MOST_SPANS T c 3 rfl)))))) (db_one (ds_raiseO c 4 rfl T.e_NoSpan)) db_nil)
    (db_one (ds_if (dt_not (dt_val (de_callB (id := "all") c (c_all c.calm) 5 rfl T.z_all (by decide +kernel) (da_cons (de_lc c (lc_ok c [(".0", 1), ("span", 2)] [1, 2] [1, 2] ["is_span"] [] (by decide +kernel) (di_seq (de_var c 0 rfl (by decide))) (by decide) (fun _ c10 => (dg_name c10 [1, 2] 2 rfl (by decide) (by decide))) (fun _ c10 => dts_nil) (fun _ c10 => (de_fn c10 (h_is_span.up (by decide)) 0 rfl (da_cons (de_var c10 2 rfl (by decide)) da_nil))))) da_nil)))) (db_one (ds_raiseO c 4 rfl T.e_NoSpan)) db_nil)))
theorem h_need_spans {M : Md} (T : Hs M) (h_is_span : Has M false 3 "is_span" ["thing"] m_is_span) (F : TopFn M "need_spans" s_need_spans ["spans"]) : Has M false 4 "need_spans" ["spans"] m_need_spans := has_of F sc_need_spans t_need_spans rfl rfl (fun X c => b_need_spans T h_is_span c)
abbrev s_need_some : Stmt := topS 58
def B_need_some : Tb := ⟨["longs", "spans", "joints"], [0, 1, 2], [0, 1, 2], [0, 1, 2], ["need_longs", "need_spans", "need_joints"], [], true, false, none⟩
theorem sc_need_some : FnScope B_need_some.N ["longs", "spans", "joints"] (defScope s_need_some) := ⟨rfl, rfl, rfl, by decide +kernel, rfl, by decide +kernel, by decide +kernel⟩
theorem t_need_some : fnT B_need_some (defScope s_need_some) = true := by decide +kernel
noncomputable def d_need_some : En → Sto → SR :=
    (sSeq (sExp (eCall m_need_longs (aCons (eVar 0) aNil)))
    (sSeq (sExp (eCall m_need_spans (aCons (eVar 1) aNil)))
    (sExp (eCall m_need_joints (aCons (eVar 2) aNil)))))
noncomputable def m_need_some : List Wv → Sto → Rs Wv := mkF 3 3 d_need_some
theorem b_need_some {M : Md} {X : Cx} (T : Hs M) (h_need_joints : Has M false 4 "need_joints" ["joints"] m_need_joints) (h_need_longs : Has M false 4 "need_longs" ["longs"] m_need_longs) (h_need_spans : Has M false 4 "need_spans" ["spans"] m_need_spans) (c : Cxt M X B_need_some 4) : DB X (defBody s_need_some) d_need_some :=
    (db_cons (ds_exp (de_fn c (h_need_longs.up (by decide)) 0 rfl (da_cons (de_var c 0 rfl (by decide)) da_nil)))
    (db_cons (ds_exp (de_fn c (h_need_spans.up (by decide)) 1 rfl (da_cons (de_var c 1 rfl (by decide)) da_nil)))
    (db_one (ds_exp (de_fn c (h_need_joints.up (by decide)) 2 rfl (da_cons (de_var c 2 rfl (by decide)) da_nil))))))
theorem h_need_some {M : Md} (T : Hs M) (h_need_joints : Has M false 4 "need_joints" ["joints"] m_need_joints) (h_need_longs : Has M false 4 "need_longs" ["longs"] m_need_longs) (h_need_spans : Has M false 4 "need_spans" ["spans"] m_need_spans) (F : TopFn M "need_some" s_need_some ["longs", "spans", "joints"]) : Has M false 5 "need_some" ["longs", "spans", "joints"] m_need_some := has_of F sc_need_some t_need_some rfl rfl (fun X c => b_need_some T h_need_joints h_need_longs h_need_spans c)
abbrev s_parting : Stmt := topS 62
def B_parting : Tb := ⟨["longs", "spans", "joints", "found"], [0, 1, 2, 3], [0, 1, 2, 3], [0, 1, 2, 3], ["need_some", "best_from"], [], true, false, none⟩
theorem sc_parting : FnScope B_parting.N ["longs", "spans", "joints"] (defScope s_parting) := ⟨rfl, rfl, rfl, by decide +kernel, rfl, by decide +kernel, by decide +kernel⟩
theorem t_parting : fnT B_parting (defScope s_parting) = true := by decide +kernel
noncomputable def d_parting : En → Sto → SR :=
    (sSeq (sExp (eCall m_need_some (aCons (eVar 0) (aCons (eVar 1) (aCons (eVar 2) aNil)))))
    (sSeq sNo
    sNo))
noncomputable def m_parting : List Wv → Sto → Rs Wv := mkF 3 4 d_parting
theorem b_parting {M : Md} {X : Cx} (T : Hs M) (h_need_some : Has M false 5 "need_some" ["longs", "spans", "joints"] m_need_some) (c : Cxt M X B_parting 5) : DB X (defBody s_parting) d_parting :=
    (db_cons (ds_exp (de_fn c (h_need_some.up (by decide)) 0 rfl (da_cons (de_var c 0 rfl (by decide)) (da_cons (de_var c 1 rfl (by decide)) (da_cons (de_var c 2 rfl (by decide)) da_nil)))))
    (db_cons ds_no
    (db_one ds_no)))
theorem h_parting {M : Md} (T : Hs M) (h_need_some : Has M false 5 "need_some" ["longs", "spans", "joints"] m_need_some) (F : TopFn M "parting" s_parting ["longs", "spans", "joints"]) : Has M false 6 "parting" ["longs", "spans", "joints"] m_parting := has_of F sc_parting t_parting rfl rfl (fun X c => b_parting T h_need_some c)
abbrev s_fewest_cuts : Stmt := topS 63
def B_fewest_cuts : Tb := ⟨["longs", "spans", "joints"], [0, 1, 2], [0, 1, 2], [0, 1, 2], ["need_some", "best_from"], [], true, false, none⟩
theorem sc_fewest_cuts : FnScope B_fewest_cuts.N ["longs", "spans", "joints"] (defScope s_fewest_cuts) := ⟨rfl, rfl, rfl, by decide +kernel, rfl, by decide +kernel, by decide +kernel⟩
theorem t_fewest_cuts : fnT B_fewest_cuts (defScope s_fewest_cuts) = true := by decide +kernel
noncomputable def d_fewest_cuts : En → Sto → SR :=
    (sSeq (sExp (eCall m_need_some (aCons (eVar 0) (aCons (eVar 1) (aCons (eVar 2) aNil)))))
    sNo)
noncomputable def m_fewest_cuts : List Wv → Sto → Rs Wv := mkF 3 3 d_fewest_cuts
theorem b_fewest_cuts {M : Md} {X : Cx} (T : Hs M) (h_need_some : Has M false 5 "need_some" ["longs", "spans", "joints"] m_need_some) (c : Cxt M X B_fewest_cuts 5) : DB X (defBody s_fewest_cuts) d_fewest_cuts :=
    (db_cons (ds_exp (de_fn c (h_need_some.up (by decide)) 0 rfl (da_cons (de_var c 0 rfl (by decide)) (da_cons (de_var c 1 rfl (by decide)) (da_cons (de_var c 2 rfl (by decide)) da_nil)))))
    (db_one ds_no))
theorem h_fewest_cuts {M : Md} (T : Hs M) (h_need_some : Has M false 5 "need_some" ["longs", "spans", "joints"] m_need_some) (F : TopFn M "fewest_cuts" s_fewest_cuts ["longs", "spans", "joints"]) : Has M false 6 "fewest_cuts" ["longs", "spans", "joints"] m_fewest_cuts := has_of F sc_fewest_cuts t_fewest_cuts rfl rfl (fun X c => b_fewest_cuts T h_need_some c)
abbrev s_levels : Stmt := topS 65
def B_levels : Tb := ⟨["longs", "spans", "joints"], [0, 1, 2], [0, 1, 2], [0, 1, 2], ["need_some", "levels_by"], [], true, false, none⟩
theorem sc_levels : FnScope B_levels.N ["longs", "spans", "joints"] (defScope s_levels) := ⟨rfl, rfl, rfl, by decide +kernel, rfl, by decide +kernel, by decide +kernel⟩
theorem t_levels : fnT B_levels (defScope s_levels) = true := by decide +kernel
noncomputable def d_levels : En → Sto → SR :=
    (sSeq (sExp (eCall m_need_some (aCons (eVar 0) (aCons (eVar 1) (aCons (eVar 2) aNil)))))
    sNo)
noncomputable def m_levels : List Wv → Sto → Rs Wv := mkF 3 3 d_levels
theorem b_levels {M : Md} {X : Cx} (T : Hs M) (h_need_some : Has M false 5 "need_some" ["longs", "spans", "joints"] m_need_some) (c : Cxt M X B_levels 5) : DB X (defBody s_levels) d_levels :=
    (db_cons (ds_exp (de_fn c (h_need_some.up (by decide)) 0 rfl (da_cons (de_var c 0 rfl (by decide)) (da_cons (de_var c 1 rfl (by decide)) (da_cons (de_var c 2 rfl (by decide)) da_nil)))))
    (db_one ds_no))
theorem h_levels {M : Md} (T : Hs M) (h_need_some : Has M false 5 "need_some" ["longs", "spans", "joints"] m_need_some) (F : TopFn M "levels" s_levels ["longs", "spans", "joints"]) : Has M false 6 "levels" ["longs", "spans", "joints"] m_levels := has_of F sc_levels t_levels rfl rfl (fun X c => b_levels T h_need_some c)
abbrev s_stuck : Stmt := topS 66
def B_stuck : Tb := ⟨["longs", "spans", "joints", "found", "at", "some"], [0, 1, 2, 3, 4, 5], [0, 1, 2, 3, 4, 5], [0, 1, 2, 3, 4, 5], ["need_some", "levels_by", "len", "enumerate"], [], true, false, none⟩
theorem sc_stuck : FnScope B_stuck.N ["longs", "spans", "joints"] (defScope s_stuck) := ⟨rfl, rfl, rfl, by decide +kernel, rfl, by decide +kernel, by decide +kernel⟩
theorem t_stuck : fnT B_stuck (defScope s_stuck) = true := by decide +kernel
noncomputable def d_stuck : En → Sto → SR :=
    (sSeq (sExp (eCall m_need_some (aCons (eVar 0) (aCons (eVar 1) (aCons (eVar 2) aNil)))))
    (sSeq sNo
    (sSeq sNo
    (sSeq sNo
    sNo))))
noncomputable def m_stuck : List Wv → Sto → Rs Wv := mkF 3 6 d_stuck
theorem b_stuck {M : Md} {X : Cx} (T : Hs M) (h_need_some : Has M false 5 "need_some" ["longs", "spans", "joints"] m_need_some) (c : Cxt M X B_stuck 5) : DB X (defBody s_stuck) d_stuck :=
    (db_cons (ds_exp (de_fn c (h_need_some.up (by decide)) 0 rfl (da_cons (de_var c 0 rfl (by decide)) (da_cons (de_var c 1 rfl (by decide)) (da_cons (de_var c 2 rfl (by decide)) da_nil)))))
    (db_cons ds_no
    (db_cons ds_no
    (db_cons ds_no
    (db_one ds_no)))))
theorem h_stuck {M : Md} (T : Hs M) (h_need_some : Has M false 5 "need_some" ["longs", "spans", "joints"] m_need_some) (F : TopFn M "stuck" s_stuck ["longs", "spans", "joints"]) : Has M false 6 "stuck" ["longs", "spans", "joints"] m_stuck := has_of F sc_stuck t_stuck rfl rfl (fun X c => b_stuck T h_need_some c)
abbrev s_levels_hold : Stmt := topS 68
def B_levels_hold : Tb := ⟨["longs", "spans", "joints", "thing"], [0, 1, 2, 3], [0, 1, 2, 3], [0, 1, 2, 3], ["need_some", "is_told", "levels_by"], [], true, false, none⟩
theorem sc_levels_hold : FnScope B_levels_hold.N ["longs", "spans", "joints", "thing"] (defScope s_levels_hold) := ⟨rfl, rfl, rfl, by decide +kernel, rfl, by decide +kernel, by decide +kernel⟩
theorem t_levels_hold : fnT B_levels_hold (defScope s_levels_hold) = true := by decide +kernel
noncomputable def d_levels_hold : En → Sto → SR :=
    (sSeq (sExp (eCall m_need_some (aCons (eVar 0) (aCons (eVar 1) (aCons (eVar 2) aNil)))))
    sNo)
noncomputable def m_levels_hold : List Wv → Sto → Rs Wv := mkF 4 4 d_levels_hold
theorem b_levels_hold {M : Md} {X : Cx} (T : Hs M) (h_need_some : Has M false 5 "need_some" ["longs", "spans", "joints"] m_need_some) (c : Cxt M X B_levels_hold 5) : DB X (defBody s_levels_hold) d_levels_hold :=
    (db_cons (ds_exp (de_fn c (h_need_some.up (by decide)) 0 rfl (da_cons (de_var c 0 rfl (by decide)) (da_cons (de_var c 1 rfl (by decide)) (da_cons (de_var c 2 rfl (by decide)) da_nil)))))
    (db_one ds_no))
theorem h_levels_hold {M : Md} (T : Hs M) (h_need_some : Has M false 5 "need_some" ["longs", "spans", "joints"] m_need_some) (F : TopFn M "levels_hold" s_levels_hold ["longs", "spans", "joints", "thing"]) : Has M false 6 "levels_hold" ["longs", "spans", "joints", "thing"] m_levels_hold := has_of F sc_levels_hold t_levels_hold rfl rfl (fun X c => b_levels_hold T h_need_some c)
abbrev s_need_bound : Stmt := topS 69
def B_need_bound : Tb := ⟨["longs", "spans", "joints", "k"], [0, 1, 2, 3], [0, 1, 2, 3], [0, 1, 2, 3], ["need_some", "is_whole", "NoNumber"], [], true, false, none⟩
theorem sc_need_bound : FnScope B_need_bound.N ["longs", "spans", "joints", "k"] (defScope s_need_bound) := ⟨rfl, rfl, rfl, by decide +kernel, rfl, by decide +kernel, by decide +kernel⟩
theorem t_need_bound : fnT B_need_bound (defScope s_need_bound) = true := by decide +kernel
noncomputable def d_need_bound : En → Sto → SR :=
    (sSeq (sExp (eCall m_need_some (aCons (eVar 0) (aCons (eVar 1) (aCons (eVar 2) aNil)))))
    (sIf (tNot1 (tTru (eCall m_is_whole (aCons (eVar 3) aNil)))) (sRaise "NoNumber") sNil))
noncomputable def m_need_bound : List Wv → Sto → Rs Wv := mkF 4 4 d_need_bound
theorem b_need_bound {M : Md} {X : Cx} (T : Hs M) (h_is_whole : Has M false 1 "is_whole" ["thing"] m_is_whole) (h_need_some : Has M false 5 "need_some" ["longs", "spans", "joints"] m_need_some) (c : Cxt M X B_need_bound 5) : DB X (defBody s_need_bound) d_need_bound :=
    (db_cons (ds_exp (de_fn c (h_need_some.up (by decide)) 0 rfl (da_cons (de_var c 0 rfl (by decide)) (da_cons (de_var c 1 rfl (by decide)) (da_cons (de_var c 2 rfl (by decide)) da_nil)))))
    (db_one (ds_if (dt_not (dt_val (de_fn c (h_is_whole.up (by decide)) 1 rfl (da_cons (de_var c 3 rfl (by decide)) da_nil)))) (db_one (ds_raiseO c 2 rfl T.e_NoNumber)) db_nil)))
theorem h_need_bound {M : Md} (T : Hs M) (h_is_whole : Has M false 1 "is_whole" ["thing"] m_is_whole) (h_need_some : Has M false 5 "need_some" ["longs", "spans", "joints"] m_need_some) (F : TopFn M "need_bound" s_need_bound ["longs", "spans", "joints", "k"]) : Has M false 6 "need_bound" ["longs", "spans", "joints", "k"] m_need_bound := has_of F sc_need_bound t_need_bound rfl rfl (fun X c => b_need_bound T h_is_whole h_need_some c)
abbrev s_cut_marks : Stmt := topS 70
def B_cut_marks : Tb := ⟨["longs", "spans", "joints", "k", "found", "at", "here", "done", "mark", "many", "cuts", "old"], [0, 1, 2, 3, 4, 5, 6, 7, 8, 9, 10, 11], [0, 1, 2, 3, 4, 5, 6, 7, 8, 9, 10, 11], [0, 1, 2, 3, 4, 5, 6, 7, 8, 9, 10, 11], ["need_bound", "len", "range", "enumerate", "ways_on", "min", "tuple"], [], true, false, none⟩
theorem sc_cut_marks : FnScope B_cut_marks.N ["longs", "spans", "joints", "k"] (defScope s_cut_marks) := ⟨rfl, rfl, rfl, by decide +kernel, rfl, by decide +kernel, by decide +kernel⟩
theorem t_cut_marks : fnT B_cut_marks (defScope s_cut_marks) = true := by decide +kernel
noncomputable def d_cut_marks : En → Sto → SR :=
    (sSeq (sExp (eCall m_need_bound (aCons (eVar 0) (aCons (eVar 1) (aCons (eVar 2) (aCons (eVar 3) aNil))))))
    (sSeq sNo
    (sSeq sNo
    (sSeq sNo
    sNo))))
noncomputable def m_cut_marks : List Wv → Sto → Rs Wv := mkF 4 12 d_cut_marks
theorem b_cut_marks {M : Md} {X : Cx} (T : Hs M) (h_need_bound : Has M false 6 "need_bound" ["longs", "spans", "joints", "k"] m_need_bound) (c : Cxt M X B_cut_marks 6) : DB X (defBody s_cut_marks) d_cut_marks :=
    (db_cons (ds_exp (de_fn c (h_need_bound.up (by decide)) 0 rfl (da_cons (de_var c 0 rfl (by decide)) (da_cons (de_var c 1 rfl (by decide)) (da_cons (de_var c 2 rfl (by decide)) (da_cons (de_var c 3 rfl (by decide)) da_nil))))))
    (db_cons ds_no
    (db_cons ds_no
    (db_cons ds_no
    (db_one ds_no)))))
theorem h_cut_marks {M : Md} (T : Hs M) (h_need_bound : Has M false 6 "need_bound" ["longs", "spans", "joints", "k"] m_need_bound) (F : TopFn M "cut_marks" s_cut_marks ["longs", "spans", "joints", "k"]) : Has M false 7 "cut_marks" ["longs", "spans", "joints", "k"] m_cut_marks := has_of F sc_cut_marks t_cut_marks rfl rfl (fun X c => b_cut_marks T h_need_bound c)
abbrev s_marks_hold : Stmt := topS 72
def B_marks_hold : Tb := ⟨["longs", "spans", "joints", "k", "thing", "at", "done", "mark", "many", "cuts", "later", ".0", "row"], [0, 1, 2, 3, 4, 5, 6, 7, 8, 9, 10], [0, 1, 2, 3, 4, 5, 6, 7, 8, 9, 10], [1, 2, 3, 4, 5, 6, 7, 8, 9, 10], ["need_bound", "isinstance", "tuple", "len", "all", "range", "enumerate", "ways_on"], ["longs"], true, false, none⟩
theorem sc_marks_hold : FnScope B_marks_hold.N ["longs", "spans", "joints", "k", "thing"] (defScope s_marks_hold) := ⟨rfl, rfl, rfl, by decide +kernel, rfl, by decide +kernel, by decide +kernel⟩
theorem t_marks_hold : fnT B_marks_hold (defScope s_marks_hold) = true := by decide +kernel
noncomputable def d_marks_hold : En → Sto → SR :=
    (sSeq (sExp (eCall m_need_bound (aCons (eVar 0) (aCons (eVar 1) (aCons (eVar 2) (aCons (eVar 3) aNil))))))
    (sSeq sNo
    (sSeq sNo
    (sSeq sNo
    sNo))))
noncomputable def m_marks_hold : List Wv → Sto → Rs Wv := mkF 5 13 d_marks_hold
theorem b_marks_hold {M : Md} {X : Cx} (T : Hs M) (h_need_bound : Has M false 6 "need_bound" ["longs", "spans", "joints", "k"] m_need_bound) (c : Cxt M X B_marks_hold 6) : DB X (defBody s_marks_hold) d_marks_hold :=
    (db_cons (ds_exp (de_fn c (h_need_bound.up (by decide)) 0 rfl (da_cons (de_var c 0 rfl (by decide)) (da_cons (de_var c 1 rfl (by decide)) (da_cons (de_var c 2 rfl (by decide)) (da_cons (de_var c 3 rfl (by decide)) da_nil))))))
    (db_cons ds_no
    (db_cons ds_no
    (db_cons ds_no
    (db_one ds_no)))))
theorem h_marks_hold {M : Md} (T : Hs M) (h_need_bound : Has M false 6 "need_bound" ["longs", "spans", "joints", "k"] m_need_bound) (F : TopFn M "marks_hold" s_marks_hold ["longs", "spans", "joints", "k", "thing"]) : Has M false 7 "marks_hold" ["longs", "spans", "joints", "k", "thing"] m_marks_hold := has_of F sc_marks_hold t_marks_hold rfl rfl (fun X c => b_marks_hold T h_need_bound c)
abbrev s__law_more : Stmt := topS 84
def B__law_more : Tb := ⟨["_law_longs_here", "_law_spans", "_law_joints_here", "_law_calls_here"], [0, 1, 2, 3], [0, 1, 2, 3], [3], [], ["_law_longs_here", "_law_spans", "_law_joints_here"], true, false, (some "_law_more.<locals>.<lambda>")⟩
theorem sc__law_more : FnScope B__law_more.N ["_law_longs_here", "_law_spans", "_law_joints_here"] (defScope s__law_more) := ⟨rfl, rfl, rfl, by decide +kernel, rfl, by decide +kernel, by decide +kernel⟩
theorem t__law_more : fnT B__law_more (defScope s__law_more) = true := by decide +kernel
noncomputable def cs__law_more : List (En → Sto → Rs Wv) := [(eCall m_parting (aCons (eVar 0) (aCons (eVar 1) (aCons (eVar 2) aNil)))),
    (eCall m_fewest_cuts (aCons (eVar 0) (aCons (eVar 1) (aCons (eVar 2) aNil)))),
    (eCall m_levels (aCons (eVar 0) (aCons (eVar 1) (aCons (eVar 2) aNil)))),
    (eCall m_stuck (aCons (eVar 0) (aCons (eVar 1) (aCons (eVar 2) aNil)))),
    (eCall m_levels_hold (aCons (eVar 0) (aCons (eVar 1) (aCons (eVar 2) (aCons (eK .none) aNil))))),
    (eCall m_cut_marks (aCons (eVar 0) (aCons (eVar 1) (aCons (eVar 2) (aCons (eK .none) aNil))))),
    (eCall m_marks_hold (aCons (eVar 0) (aCons (eVar 1) (aCons (eVar 2) (aCons (eK .none) (aCons (eK .none) aNil))))))]
theorem b__law_more {M : Md} {X : Cx} (T : Hs M) (h_cut_marks : Has M false 7 "cut_marks" ["longs", "spans", "joints", "k"] m_cut_marks) (h_fewest_cuts : Has M false 6 "fewest_cuts" ["longs", "spans", "joints"] m_fewest_cuts) (h_levels : Has M false 6 "levels" ["longs", "spans", "joints"] m_levels) (h_levels_hold : Has M false 6 "levels_hold" ["longs", "spans", "joints", "thing"] m_levels_hold) (h_marks_hold : Has M false 7 "marks_hold" ["longs", "spans", "joints", "k", "thing"] m_marks_hold) (h_parting : Has M false 6 "parting" ["longs", "spans", "joints"] m_parting) (h_stuck : Has M false 6 "stuck" ["longs", "spans", "joints"] m_stuck) (c : Cxt M X B__law_more 8) : LQ X (defBody s__law_more) (tQ0 X 7 3 cs__law_more) :=
    (lc_start (j := 3) c rfl (by decide) (lamd_ok (kb := 7) c rfl [2, 0, 1] ["parting"] (by decide +kernel) (fun _ c11 => (de_fn c11 (h_parting.up (by decide)) 0 rfl (da_cons (de_var c11 0 rfl (by decide)) (da_cons (de_var c11 1 rfl (by decide)) (da_cons (de_var c11 2 rfl (by decide)) da_nil))))))
    (lc_app c rfl (by decide) (lamd_ok (kb := 7) c rfl [2, 0, 1] ["fewest_cuts"] (by decide +kernel) (fun _ c12 => (de_fn c12 (h_fewest_cuts.up (by decide)) 0 rfl (da_cons (de_var c12 0 rfl (by decide)) (da_cons (de_var c12 1 rfl (by decide)) (da_cons (de_var c12 2 rfl (by decide)) da_nil)))))) (by decide)
    (lc_app c rfl (by decide) (lamd_ok (kb := 7) c rfl [2, 0, 1] ["levels"] (by decide +kernel) (fun _ c13 => (de_fn c13 (h_levels.up (by decide)) 0 rfl (da_cons (de_var c13 0 rfl (by decide)) (da_cons (de_var c13 1 rfl (by decide)) (da_cons (de_var c13 2 rfl (by decide)) da_nil)))))) (by decide)
    (lc_app c rfl (by decide) (lamd_ok (kb := 7) c rfl [2, 0, 1] ["stuck"] (by decide +kernel) (fun _ c14 => (de_fn c14 (h_stuck.up (by decide)) 0 rfl (da_cons (de_var c14 0 rfl (by decide)) (da_cons (de_var c14 1 rfl (by decide)) (da_cons (de_var c14 2 rfl (by decide)) da_nil)))))) (by decide)
    (lc_app c rfl (by decide) (lamd_ok (kb := 7) c rfl [2, 0, 1] ["levels_hold"] (by decide +kernel) (fun _ c15 => (de_fn c15 (h_levels_hold.up (by decide)) 0 rfl (da_cons (de_var c15 0 rfl (by decide)) (da_cons (de_var c15 1 rfl (by decide)) (da_cons (de_var c15 2 rfl (by decide)) (da_cons de_non da_nil))))))) (by decide)
    (lc_app c rfl (by decide) (lamd_ok (kb := 7) c rfl [2, 0, 1] ["cut_marks"] (by decide +kernel) (fun _ c16 => (de_fn c16 (h_cut_marks.up (by decide)) 0 rfl (da_cons (de_var c16 0 rfl (by decide)) (da_cons (de_var c16 1 rfl (by decide)) (da_cons (de_var c16 2 rfl (by decide)) (da_cons de_non da_nil))))))) (by decide)
    (lc_app c rfl (by decide) (lamd_ok (kb := 7) c rfl [2, 0, 1] ["marks_hold"] (by decide +kernel) (fun _ c17 => (de_fn c17 (h_marks_hold.up (by decide)) 0 rfl (da_cons (de_var c17 0 rfl (by decide)) (da_cons (de_var c17 1 rfl (by decide)) (da_cons (de_var c17 2 rfl (by decide)) (da_cons de_non (da_cons de_non da_nil)))))))) (by decide)
    (lc_ret c rfl (by decide)))))))))
theorem h__law_more {M : Md} (T : Hs M) (h_cut_marks : Has M false 7 "cut_marks" ["longs", "spans", "joints", "k"] m_cut_marks) (h_fewest_cuts : Has M false 6 "fewest_cuts" ["longs", "spans", "joints"] m_fewest_cuts) (h_levels : Has M false 6 "levels" ["longs", "spans", "joints"] m_levels) (h_levels_hold : Has M false 6 "levels_hold" ["longs", "spans", "joints", "thing"] m_levels_hold) (h_marks_hold : Has M false 7 "marks_hold" ["longs", "spans", "joints", "k", "thing"] m_marks_hold) (h_parting : Has M false 6 "parting" ["longs", "spans", "joints"] m_parting) (h_stuck : Has M false 6 "stuck" ["longs", "spans", "joints"] m_stuck) (LT : LamT M "_law_more" "_law_more.<locals>.<lambda>") (F : TopFn M "_law_more" s__law_more ["_law_longs_here", "_law_spans", "_law_joints_here"]) : CallsF M false 9 7 3 "_law_more" ["_law_longs_here", "_law_spans", "_law_joints_here"] cs__law_more := callsF_of F sc__law_more t__law_more rfl rfl (fun X c => b__law_more T h_cut_marks h_fewest_cuts h_levels h_levels_hold h_marks_hold h_parting h_stuck c) (fun q e => by cases e; exact LT)
abbrev s_law : Stmt := topS 86
def B_law : Tb := ⟨["_law_script", "_law_cell", "_law_pen", "_law_longs_here", "_law_joints_here", "_law_span_here", "_law_rest", "_law_last", "_law_odd", "_law_bad", "_law_low", "_law_high", "_law_told"], [0, 1, 2, 3, 4, 5, 6, 7, 8, 9, 10, 11, 12], [0, 1, 2, 3, 4, 5, 6, 7, 8, 9, 10, 11, 12], [0, 1, 2, 3, 4, 5, 6, 7, 8, 9, 10, 11, 12], ["_law_cell_at", "_law_pen_of", "_law_longs", "_law_joints", "_law_span", "list", "_law_words", "_law_calls", "_law_more", "spread", "fits"], [], true, false, none⟩
theorem sc_law : FnScope B_law.N ["_law_script"] (defScope s_law) := ⟨rfl, rfl, rfl, by decide +kernel, rfl, by decide +kernel, by decide +kernel⟩
theorem t_law : fnT B_law (defScope s_law) = true := by decide +kernel
noncomputable def d_law_l1 : En → Sto → SR :=
    (sWp [9] (sSeq (sIf (tBl (eOp2 neD (eLamC 3 (aCons (eVar 9) (aCons (eK .none) (aCons (eVar 4) aNil))) told__law_word fl__law_word cs__law_calls) (eOp2 mulD (eLst (aCons (eTup (aCons (eK (.str "longs")) aNil)) aNil)) (eK (.int 6))))) (sRet (eK (.bool false))) sNil)
    (sIf (tBl (eOp2 neD (eLamC 3 (aCons (eVar 9) (aCons (eTup (aCons (eVar 5) aNil)) (aCons (eK .none) aNil))) told__law_word fl__law_word cs__law_more) (eOp2 mulD (eLst (aCons (eTup (aCons (eK (.str "longs")) aNil)) aNil)) (eK (.int 7))))) (sRet (eK (.bool false))) sNil)))
noncomputable def d_law_l2 : En → Sto → SR :=
    (sWp [9] (sSeq (sIf (tBl (eOp2 neD (eLamC 3 (aCons (eVar 3) (aCons (eVar 9) (aCons (eK .none) aNil))) told__law_word fl__law_word cs__law_calls) (eOp2 mulD (eLst (aCons (eTup (aCons (eK (.str "span")) aNil)) aNil)) (eK (.int 6))))) (sRet (eK (.bool false))) sNil)
    (sIf (tBl (eOp2 neD (eLamC 3 (aCons (eVar 3) (aCons (eTup (aCons (eVar 5) (aCons (eVar 9) aNil))) (aCons (eK .none) aNil))) told__law_word fl__law_word cs__law_more) (eOp2 mulD (eLst (aCons (eTup (aCons (eK (.str "span")) aNil)) aNil)) (eK (.int 7))))) (sRet (eK (.bool false))) sNil)))
noncomputable def d_law_l3 : En → Sto → SR :=
    (sWp [9] (sIf (tBl (eOp2 neD (eLamC 3 (aCons (eVar 3) (aCons (eVar 9) (aCons (eVar 4) aNil))) told__law_word fl__law_word cs__law_more) (eOp2 mulD (eLst (aCons (eTup (aCons (eK (.str "span")) aNil)) aNil)) (eK (.int 7))))) (sRet (eK (.bool false))) sNil))
noncomputable def d_law_l4 : En → Sto → SR :=
    (sWp [9] (sSeq (sIf (tBl (eOp2 neD (eLamC 3 (aCons (eVar 3) (aCons (eVar 5) (aCons (eVar 9) aNil))) told__law_word fl__law_word cs__law_calls) (eOp2 mulD (eLst (aCons (eTup (aCons (eK (.str "joints")) aNil)) aNil)) (eK (.int 6))))) (sRet (eK (.bool false))) sNil)
    (sIf (tBl (eOp2 neD (eLamC 3 (aCons (eVar 3) (aCons (eTup (aCons (eVar 5) aNil)) (aCons (eVar 9) aNil))) told__law_word fl__law_word cs__law_more) (eOp2 mulD (eLst (aCons (eTup (aCons (eK (.str "joints")) aNil)) aNil)) (eK (.int 7))))) (sRet (eK (.bool false))) sNil)))
noncomputable def d_law_l5 : En → Sto → SR :=
    (sWp [1, 2, 3, 4, 5, 6, 7, 8, 9, 10, 11, 12] (sSeq (sSet 2 (eCall m__law_pen_of (aCons (eVar 1) aNil)))
    (sSeq (sPar2 3 4 (aCons (eCall m__law_longs (aCons (eVar 2) (aCons (eK (.int 12)) aNil))) (aCons (eCall m__law_joints (aCons (eVar 2) aNil)) aNil)))
    (sSeq (sSet 5 (eCall m__law_span (aCons (eVar 2) (aCons (eVar 3) (aCons (eVar 4) aNil)))))
    (sSeq (sPar2 6 7 (aCons (eSlice (eVar 3) pNo (pSome (eOp1 negD (eK (.int 1))))) (aCons (eOp2 ixD (eVar 3) (eOp1 negD (eK (.int 1)))) aNil)))
    (sSeq (sSet 8 (eLst (aCons (eK .none) (aCons (eTup aNil) (aCons (eOp2 ixD (eVar 3) (eK (.int 0))) (aCons (eOpN lstF (aCons (eVar 3) aNil)) (aCons (eOp2 mulD (eTup (aCons (eK (.int 1)) aNil)) (eK (.int 13))) (aCons (eOp2 addD (eVar 6) (eTup (aCons (eK (.int 0)) aNil))) (aCons (eOp2 addD (eVar 6) (eTup (aCons (eK (.int 21)) aNil))) (aCons (eOp2 addD (eVar 6) (eTup (aCons (eK (.bool true)) aNil))) (aCons eDic0 aNil)))))))))))
    (sSeq (sWi [9] (sFor (cSeq (eOp2 addD (eVar 8) (eLst (aCons (eOp2 addD (eVar 6) (eTup (aCons (eK (.str "1")) aNil))) aNil)))) (gN 9) d_law_l1))
    (sSeq (sWi [9] (sFor (cSeq (eLst (aCons (eK .none) (aCons (eK (.int 0)) (aCons (eK (.int 81)) (aCons (eOp1 negD (eK (.int 1))) (aCons (eK (.bool true)) (aCons (eK (.str "5")) (aCons (eTup (aCons (eK (.int 5)) aNil)) (aCons (eOp2 powD (eK (.int 10)) (eK (.int 29))) aNil)))))))))) (gN 9) d_law_l2))
    (sSeq (sWi [9] (sFor (cSeq (eLst (aCons (eK .none) (aCons (eTup aNil) (aCons (eVar 5) (aCons (eLst (aCons (eVar 5) aNil)) (aCons (eOp2 mulD (eTup (aCons (eVar 5) aNil)) (eK (.int 7))) (aCons (eK (.str "spans")) (aCons (eTup (aCons (eTup (aCons (eVar 5) aNil)) aNil)) aNil))))))))) (gN 9) d_law_l3))
    (sSeq (sAsg (gTp (gCn (gN 10) (gCn (gN 11) gNl))) (eVar 4))
    (sSeq (sSet 8 (eLst (aCons (eK .none) (aCons (eVar 10) (aCons (eTup (aCons (eVar 10) aNil)) (aCons (eTup (aCons (eVar 10) (aCons (eVar 11) (aCons (eK (.int 9)) aNil)))) (aCons (eLst (aCons (eVar 10) (aCons (eVar 11) aNil))) (aCons (eTup (aCons (eOp1 negD (eK (.int 1))) (aCons (eVar 11) aNil))) (aCons (eTup (aCons (eK (.int 0)) (aCons (eK (.int 10)) aNil))) (aCons (eTup (aCons (eOp2 addD (eVar 11) (eK (.int 1))) (aCons (eVar 11) aNil))) (aCons (eTup (aCons (eK (.bool true)) (aCons (eK (.int 9)) aNil))) aNil)))))))))))
    (sSeq (sWi [9] (sFor (cSeq (eOp2 addD (eVar 8) (eLst (aCons (eTup (aCons (eK (.int 0)) (aCons (eK .none) aNil))) aNil)))) (gN 9) d_law_l4))
    (sSeq (sSet 12 (eCall m_spread (aCons (eVar 3) (aCons (eVar 5) (aCons (eVar 4) aNil)))))
    (sIf (tOr2 (tBl (eOp2 neD (eCall m_fits (aCons (eVar 3) (aCons (eVar 5) (aCons (eVar 4) aNil)))) (eOp2 ntND (eVar 12) (eK .none)))) (tBl (eOp2 neD (eVar 7) (eOp2 ixD (eVar 3) (eOp1 negD (eK (.int 1))))))) (sRet (eK (.bool false))) sNil))))))))))))))
noncomputable def d_law : En → Sto → SR :=
    (sSeq (sFor (cSeq (eOp2 addD (eLst (aCons (eCall m__law_cell_at (aCons (eVar 0) (aCons (eK (.int 0)) aNil))) aNil)) (eSlice (eVar 0) (pSome (eK (.int 1))) (pSome (eK (.int 2)))))) (gN 1) d_law_l5)
    (sRet (eK (.bool true))))
noncomputable def m_law : List Wv → Sto → Rs Wv := mkF 1 13 d_law
theorem b_law {M : Md} {X : Cx} (T : Hs M) (h__law_calls : CallsF M false 9 7 3 "_law_calls" ["_law_longs_here", "_law_span_here", "_law_joints_here"] cs__law_calls) (h__law_cell_at : Has M false 1 "_law_cell_at" ["_law_script", "_law_k"] m__law_cell_at) (h__law_joints : Has M false 3 "_law_joints" ["_law_pen"] m__law_joints) (h__law_longs : Has M false 3 "_law_longs" ["_law_pen", "_law_most"] m__law_longs) (h__law_more : CallsF M false 9 7 3 "_law_more" ["_law_longs_here", "_law_spans", "_law_joints_here"] cs__law_more) (h__law_pen_of : Has M false 1 "_law_pen_of" ["_law_cell"] m__law_pen_of) (h__law_span : Has M false 3 "_law_span" ["_law_pen", "_law_longs_here", "_law_joints_here"] m__law_span) (h__law_words : WordsF M false 10 7 "_law_words" ["_law_calls_here"] told__law_word fl__law_word) (h_fits : Has M false 6 "fits" ["longs", "span", "joints"] m_fits) (h_spread : Has M false 6 "spread" ["longs", "span", "joints"] m_spread) (c : Cxt M X B_law 10) : DB X (defBody s_law) d_law :=
    (db_cons (ds_for c [1] (di_seq (de_bin o_add (de_lst (da_cons (de_fn c (h__law_cell_at.up (by decide)) 0 rfl (da_cons (de_var c 0 rfl (by decide)) (da_cons de_int da_nil))) da_nil)) (de_slice (de_var c 0 rfl (by decide)) (do_some de_int) (do_some de_int)))) (dg_name c [1] 1 rfl (by decide) (by decide))
    (db_wp [1, 2, 3, 4, 5, 6, 7, 8, 9, 10, 11, 12] (db_cons (ds_set c 2 rfl (by decide) (de_fn c (h__law_pen_of.up (by decide)) 1 rfl (da_cons (de_var c 1 rfl (by decide)) da_nil)))
    (db_cons (ds_par2 c 3 4 rfl rfl (by decide) (isLoc c (i := 3) (by decide) rfl) (isLoc c (i := 4) (by decide) rfl) (da_cons (de_fn c (h__law_longs.up (by decide)) 2 rfl (da_cons (de_var c 2 rfl (by decide)) (da_cons de_int da_nil))) (da_cons (de_fn c (h__law_joints.up (by decide)) 3 rfl (da_cons (de_var c 2 rfl (by decide)) da_nil)) da_nil)) (sw2 c (i := 3) (j := 4) rfl rfl (by decide) (by decide) (by decide +kernel) rfl rfl (by intro _ _ h; cases h) (by intro _ _ h; cases h) rfl rfl))
    (db_cons (ds_set c 5 rfl (by decide) (de_fn c (h__law_span.up (by decide)) 4 rfl (da_cons (de_var c 2 rfl (by decide)) (da_cons (de_var c 3 rfl (by decide)) (da_cons (de_var c 4 rfl (by decide)) da_nil)))))
    (db_cons (ds_par2 c 6 7 rfl rfl (by decide) (isLoc c (i := 6) (by decide) rfl) (isLoc c (i := 7) (by decide) rfl) (da_cons (de_slice (de_var c 3 rfl (by decide)) do_no (do_some (de_un o_neg de_int))) (da_cons (de_ix c.roomH (de_var c 3 rfl (by decide)) (de_un o_neg de_int) (fun _ _ => rfl)) da_nil)) (sw2 c (i := 6) (j := 7) rfl rfl (by decide) (by decide) (by decide +kernel) rfl rfl (by intro _ _ h; cases h) (by intro _ _ h; cases h) rfl rfl))
    (db_cons (ds_set c 8 rfl (by decide) (de_lst (da_cons de_non (da_cons (de_tup da_nil) (da_cons (de_ix c.roomH (de_var c 3 rfl (by decide)) de_int (fun _ _ => rfl)) (da_cons (de_callT (T := "list") c c_lst 5 rfl T.z_list (by decide +kernel) (da_cons (de_var c 3 rfl (by decide)) da_nil)) (da_cons (de_bin o_mul (de_tup (da_cons de_int da_nil)) de_int) (da_cons (de_bin o_add (de_var c 6 rfl (by decide)) (de_tup (da_cons de_int da_nil))) (da_cons (de_bin o_add (de_var c 6 rfl (by decide)) (de_tup (da_cons de_int da_nil))) (da_cons (de_bin o_add (de_var c 6 rfl (by decide)) (de_tup (da_cons de_bl da_nil))) (da_cons de_dic0 da_nil)))))))))))
    (db_cons (ds_wi [9] (ds_for c [9] (di_seq (de_bin o_add (de_var c 8 rfl (by decide)) (de_lst (da_cons (de_bin o_add (de_var c 6 rfl (by decide)) (de_tup (da_cons de_str da_nil))) da_nil)))) (dg_name c [9] 9 rfl (by decide) (by decide))
    (db_wp [9] (db_cons (ds_if (dt_cmp (o_ne c.roomH) (de_lamF c h__law_calls h__law_words (by decide) (by decide) (Nat.le_of_ble_eq_true rfl) 7 6 rfl rfl (da_cons (de_var c 9 rfl (by decide)) (da_cons de_non (da_cons (de_var c 4 rfl (by decide)) da_nil))) (fun z => nomatch z) (fun z => nomatch z)) (de_bin o_mul (de_lst (da_cons (de_tup (da_cons de_str da_nil)) da_nil)) de_int) (nomark _)) (db_one (ds_ret de_bl)) db_nil)
    (db_one (ds_if (dt_cmp (o_ne c.roomH) (de_lamF c h__law_more h__law_words (by decide) (by decide) (Nat.le_of_ble_eq_true rfl) 8 6 rfl rfl (da_cons (de_var c 9 rfl (by decide)) (da_cons (de_tup (da_cons (de_var c 5 rfl (by decide)) da_nil)) (da_cons de_non da_nil))) (fun z => nomatch z) (fun z => nomatch z)) (de_bin o_mul (de_lst (da_cons (de_tup (da_cons de_str da_nil)) da_nil)) de_int) (nomark _)) (db_one (ds_ret de_bl)) db_nil))))))
    (db_cons (ds_wi [9] (ds_for c [9] (di_seq (de_lst (da_cons de_non (da_cons de_int (da_cons de_int (da_cons (de_un o_neg de_int) (da_cons de_bl (da_cons de_str (da_cons (de_tup (da_cons de_int da_nil)) (da_cons (de_bin o_pow de_int de_int) da_nil)))))))))) (dg_name c [9] 9 rfl (by decide) (by decide))
    (db_wp [9] (db_cons (ds_if (dt_cmp (o_ne c.roomH) (de_lamF c h__law_calls h__law_words (by decide) (by decide) (Nat.le_of_ble_eq_true rfl) 7 6 rfl rfl (da_cons (de_var c 3 rfl (by decide)) (da_cons (de_var c 9 rfl (by decide)) (da_cons de_non da_nil))) (fun z => nomatch z) (fun z => nomatch z)) (de_bin o_mul (de_lst (da_cons (de_tup (da_cons de_str da_nil)) da_nil)) de_int) (nomark _)) (db_one (ds_ret de_bl)) db_nil)
    (db_one (ds_if (dt_cmp (o_ne c.roomH) (de_lamF c h__law_more h__law_words (by decide) (by decide) (Nat.le_of_ble_eq_true rfl) 8 6 rfl rfl (da_cons (de_var c 3 rfl (by decide)) (da_cons (de_tup (da_cons (de_var c 5 rfl (by decide)) (da_cons (de_var c 9 rfl (by decide)) da_nil))) (da_cons de_non da_nil))) (fun z => nomatch z) (fun z => nomatch z)) (de_bin o_mul (de_lst (da_cons (de_tup (da_cons de_str da_nil)) da_nil)) de_int) (nomark _)) (db_one (ds_ret de_bl)) db_nil))))))
    (db_cons (ds_wi [9] (ds_for c [9] (di_seq (de_lst (da_cons de_non (da_cons (de_tup da_nil) (da_cons (de_var c 5 rfl (by decide)) (da_cons (de_lst (da_cons (de_var c 5 rfl (by decide)) da_nil)) (da_cons (de_bin o_mul (de_tup (da_cons (de_var c 5 rfl (by decide)) da_nil)) de_int) (da_cons de_str (da_cons (de_tup (da_cons (de_tup (da_cons (de_var c 5 rfl (by decide)) da_nil)) da_nil)) da_nil))))))))) (dg_name c [9] 9 rfl (by decide) (by decide))
    (db_wp [9] (db_one (ds_if (dt_cmp (o_ne c.roomH) (de_lamF c h__law_more h__law_words (by decide) (by decide) (Nat.le_of_ble_eq_true rfl) 8 6 rfl rfl (da_cons (de_var c 3 rfl (by decide)) (da_cons (de_var c 9 rfl (by decide)) (da_cons (de_var c 4 rfl (by decide)) da_nil))) (fun z => nomatch z) (fun z => nomatch z)) (de_bin o_mul (de_lst (da_cons (de_tup (da_cons de_str da_nil)) da_nil)) de_int) (nomark _)) (db_one (ds_ret de_bl)) db_nil)))))
    (db_cons (ds_asg (de_var c 4 rfl (by decide)) (dg_tup c (dgs_cons (dg_name c [10, 11] 10 rfl (by decide) (by decide)) (dgs_cons (dg_name c [10, 11] 11 rfl (by decide) (by decide)) (dgs_nil [10, 11]))) (asks_cons (asks_cons asks_nil))))
    (db_cons (ds_set c 8 rfl (by decide) (de_lst (da_cons de_non (da_cons (de_var c 10 rfl (by decide)) (da_cons (de_tup (da_cons (de_var c 10 rfl (by decide)) da_nil)) (da_cons (de_tup (da_cons (de_var c 10 rfl (by decide)) (da_cons (de_var c 11 rfl (by decide)) (da_cons de_int da_nil)))) (da_cons (de_lst (da_cons (de_var c 10 rfl (by decide)) (da_cons (de_var c 11 rfl (by decide)) da_nil))) (da_cons (de_tup (da_cons (de_un o_neg de_int) (da_cons (de_var c 11 rfl (by decide)) da_nil))) (da_cons (de_tup (da_cons de_int (da_cons de_int da_nil))) (da_cons (de_tup (da_cons (de_bin o_add (de_var c 11 rfl (by decide)) de_int) (da_cons (de_var c 11 rfl (by decide)) da_nil))) (da_cons (de_tup (da_cons de_bl (da_cons de_int da_nil))) da_nil)))))))))))
    (db_cons (ds_wi [9] (ds_for c [9] (di_seq (de_bin o_add (de_var c 8 rfl (by decide)) (de_lst (da_cons (de_tup (da_cons de_int (da_cons de_non da_nil))) da_nil)))) (dg_name c [9] 9 rfl (by decide) (by decide))
    (db_wp [9] (db_cons (ds_if (dt_cmp (o_ne c.roomH) (de_lamF c h__law_calls h__law_words (by decide) (by decide) (Nat.le_of_ble_eq_true rfl) 7 6 rfl rfl (da_cons (de_var c 3 rfl (by decide)) (da_cons (de_var c 5 rfl (by decide)) (da_cons (de_var c 9 rfl (by decide)) da_nil))) (fun z => nomatch z) (fun z => nomatch z)) (de_bin o_mul (de_lst (da_cons (de_tup (da_cons de_str da_nil)) da_nil)) de_int) (nomark _)) (db_one (ds_ret de_bl)) db_nil)
    (db_one (ds_if (dt_cmp (o_ne c.roomH) (de_lamF c h__law_more h__law_words (by decide) (by decide) (Nat.le_of_ble_eq_true rfl) 8 6 rfl rfl (da_cons (de_var c 3 rfl (by decide)) (da_cons (de_tup (da_cons (de_var c 5 rfl (by decide)) da_nil)) (da_cons (de_var c 9 rfl (by decide)) da_nil))) (fun z => nomatch z) (fun z => nomatch z)) (de_bin o_mul (de_lst (da_cons (de_tup (da_cons de_str da_nil)) da_nil)) de_int) (nomark _)) (db_one (ds_ret de_bl)) db_nil))))))
    (db_cons (ds_set c 12 rfl (by decide) (de_fn c (h_spread.up (by decide)) 9 rfl (da_cons (de_var c 3 rfl (by decide)) (da_cons (de_var c 5 rfl (by decide)) (da_cons (de_var c 4 rfl (by decide)) da_nil)))))
    (db_one (ds_if (DW.dt (dw_or (dt_cmp (o_ne c.roomH) (de_fn c (h_fits.up (by decide)) 10 rfl (da_cons (de_var c 3 rfl (by decide)) (da_cons (de_var c 5 rfl (by decide)) (da_cons (de_var c 4 rfl (by decide)) da_nil)))) (de_cmp o_ntN (de_var c 12 rfl (by decide)) de_non (nomark _)) (nomark _)) (dw_or1 (dt_cmp (o_ne c.roomH) (de_var c 7 rfl (by decide)) (de_ix c.roomH (de_var c 3 rfl (by decide)) (de_un o_neg de_int) (fun _ _ => rfl)) (nomark _))))) (db_one (ds_ret de_bl)) db_nil))))))))))))))))
    (db_one (ds_ret de_bl)))
end
section
variable [Tbl]
theorem r_cell_at (ns : List Int) (k : Nat) (st : Sto) : m__law_cell_at [.d (.list (ns.map .int)), .d (.int (k : Nat))] st = .ok (.d (.int (ns.getD k 0))) st := by
  unfold m__law_cell_at d__law_cell_at
  by_cases h : k < ns.length
  · have h2 : (k : Int) < ns.length := by omega
    simp [h2, atD_nat, h]
  · have h2 : ¬ (k : Int) < ns.length := by omega
    simp [h2, h]
theorem big_l {i j : Int} (h : 0 ≤ i) (h2 : i < 2147483648) : bigOk i j = true := by
  unfold bigOk
  rw [decide_eq_true (show i.natAbs < 18446744073709551616 by omega)]
  rfl
def nxI (s : Int) : Int := (((s + 7919) % 2147483647) * ((s + 7919) % 2147483647) + 48271 * ((s + 7919) % 2147483647) + 12345) % 2147483629
theorem r_next (s : Int) (st : Sto) : m__law_next [.d (.int s)] st = .ok (.d (.int (nxI s))) st := by
  unfold m__law_next d__law_next
  have h1 : 0 ≤ (s + 7919) % 2147483647 := by omega
  have h2 : (s + 7919) % 2147483647 < 2147483648 := by omega
  simp [big_l h1 h2, big_l (i := 48271) (by decide) (by decide), nxI]
theorem r_pen_of (c : Int) (st : Sto) : ∃ a b d : Int, m__law_pen_of [.d (.int c)] st = .ok (.r st.length) (st ++ [.lst [.int a, .int b, .int d]]) := by
  unfold m__law_pen_of d__law_pen_of
  simp [newW]
theorem r_draw {p : Nat} {st : Sto} (n : Int) (h : Pen p st) (h0 : 0 < n) (h1 : n < 1606938044258990275541962092341162602522202993782792835301376) : ∃ (v : Int) (st' : Sto), m__law_draw [.r p, .d (.int n)] st = .ok (.d (.int v)) st' ∧ 0 ≤ v ∧ v < n ∧ Pn p st st' := by
  obtain ⟨a, b, c, e⟩ := id h
  have hp : p < st.length := (List.getElem?_eq_some_iff.mp e).1
  have dv : ∀ i, divD (.int i) (.int n) = some (.int (i / n)) := fun i => divD_ok h0 h1
  have d64 : ∀ i, divD (.int i) (.int 64) = some (.int (i / 64)) := fun i => rfl
  unfold m__law_draw d__law_draw
  have ix0 : ixN 3 0 = some 0 := rfl
  have ix2 : ixN 3 2 = some 2 := rfl
  by_cases q : b = 1 ∧ 0 < a
  · obtain ⟨rfl, q2⟩ := q
    refine ⟨a % n, st.set p (.lst [.int (a / n), .int 1, .int c]), ?_, Int.emod_nonneg _ (by omega), Int.emod_lt_of_pos a h0, .set h _ _ _⟩
    have hl : (st.set p (.lst [.int (a / n), .int 1, .int c])).length = st.length := by simp
    simp [-o_div_i, look1_l e, q2, h0, dv, sixW, setW_l e (t := 0) (q := 0) rfl]
  · have hs : ∀ x, (st.set p (.lst [.int a, .int b, .int x]))[p]? = some (.lst [.int a, .int b, .int x]) := fun x => List.getElem?_set_self hp
    refine ⟨nxI (nxI c + 7) / 64 % n, st.set p (.lst [.int a, .int b, .int (nxI (nxI c + 7))]), ?_, Int.emod_nonneg _ (by omega), Int.emod_lt_of_pos _ h0, .set h _ _ _⟩
    simp [-o_div_i, look1_l e, q, h0, d64, sixW, setW_l e (t := 2) (q := 2) rfl, r_next, look1_l (hs _)]
/-- the law's own loop over the cells, all other slots given up behind each -/
theorem outer_w {body : En → Sto → SR} {n : Nat} {K : Int} (turn : ∀ (sc : Wv) (c : Int) (st : Sto), ∃ st', body (some sc :: some (.d (.int c)) :: List.replicate n none) st = .nx (some sc :: List.replicate (n + 1) none) st') (ns : List Int) (h : ns.length ≤ 63) :
    ∃ st, mkF 1 (n + 2) (sSeq (sFor (cSeq (eOp2 addD (eLst (aCons (eCall m__law_cell_at (aCons (eVar 0) (aCons (eK (.int 0)) aNil))) aNil)) (eSlice (eVar 0) (pSome (eK (.int 1))) (pSome (eK (.int K)))))) (gN 1) body) (sRet (eK (.bool true)))) [.d (.list (ns.map .int))] [] = .ok (.d (.bool true)) st := by
  have e0 := r_cell_at ns 0 []
  have ec : cutD (ns.map PyData.int) (some 1) (some K) = (cutD ns (some 1) (some K)).map .int := by unfold cutD; simp
  obtain ⟨env, st, e1, rfl⟩ := forL_go (g := gN 1) (b := body) (fun env _ => env = some (.d (.list (ns.map .int))) :: List.replicate (n + 1) none) (.int (ns.getD 0 0) :: (cutD ns (some 1) (some K)).map .int) (fun x hx env st hI => by
    subst hI
    obtain ⟨i, rfl⟩ : ∃ i, x = .int i := by
      rcases List.mem_cons.mp hx with rfl | q
      · exact ⟨_, rfl⟩
      · obtain ⟨i, _, rfl⟩ := List.mem_map.mp q
        exact ⟨i, rfl⟩
    obtain ⟨st', e⟩ := turn (.d (.list (ns.map .int))) i st
    exact ⟨_, _, _, rfl, e, rfl⟩) (some (.d (.list (ns.map .int))) :: List.replicate (n + 1) none) [] rfl
  have hl : (cutD ns (some 1) (some K)).length ≤ 63 := Nat.le_trans cutD_len h
  have e0' : m__law_cell_at [.d (.list (ns.map .int)), .d (.int 0)] [] = .ok (.d (.int (ns.getD 0 0))) [] := e0
  refine ⟨[], ?_⟩
  generalize ns.getD 0 0 = c0 at *
  have hl2 : (cutD ns (some 1) (some K)).length + 1 ≤ 1000000 := by omega
  have e2 : List.replicate (n + 2 - 1) (none : Option Wv) = List.replicate (n + 1) none := rfl
  simp [e0', lstW, ec, Nat.add_comm 1, hl2, srcW, e2]
  simp at e1
  simp [e1]
end
section
variable [Tbl]
theorem r_longs {p : Nat} {st : Sto} (h : Pen p st) {most : Int} (hm : 1 ≤ most) (hm2 : most ≤ 1000) : ∃ (ls : List Int) (st' : Sto), m__law_longs [.r p, .d (.int most)] st = .ok (.d (.tuple (ls.map .int))) st' ∧ (1 ≤ ls.length ∧ (ls.length : Int) ≤ most) ∧ (∀ l ∈ ls, 1 ≤ l ∧ l ≤ 20) ∧ Pn p st st' := by
  obtain ⟨v1, st1, e1, a1, b1, c1⟩ := r_draw 3 h (by decide) (by decide)
  obtain ⟨v2, st2, e2, a2, b2, c2⟩ := r_draw most c1.pen (by omega) (by omega)
  obtain ⟨m, hm', em⟩ := atD_mem (xs := [PyData.int 3, .int 8, .int 20]) a1 (by simpa using b1)
  obtain ⟨m, rfl, m1, m2⟩ : ∃ u, m = .int u ∧ 0 < u ∧ u ≤ 20 := by
    simp at hm'
    rcases hm' with rfl | rfl | rfl <;> exact ⟨_, rfl, by decide, by decide⟩
  obtain ⟨ys, st3, e3, hl, hy, c3⟩ := lcL_pen (p := p) (g := gN 5) (c := eOp2 addD (eK (.int 1)) (eCall m__law_draw (aCons (eVar 0) (aCons (eOp2 ixD (eLst (aCons (eK (.int 3)) (aCons (eK (.int 8)) (aCons (eK (.int 20)) aNil)))) (eVar 2)) aNil))))
    (env := [some (.r p), some (.d (.int most)), some (.d (.int v1)), some (.d (.int (1 + v2))), none, none]) (fun y => ∃ i, y = .int i ∧ (1 ≤ i ∧ i ≤ 20)) (rangeD 0 (1 + v2).toNat) [] st2 c2.pen fun x hx st hp => by
      obtain ⟨u, st', e, a, b, c⟩ := r_draw m hp m1 (by omega)
      exact ⟨_, .int (1 + u), st', rfl, by simp [lstW, em, e], ⟨_, rfl, by omega, by omega⟩, c⟩
  obtain ⟨ls, rfl, hls, ok⟩ := ints_of hy
  rw [hl, rangeD_len] at hls
  refine ⟨ls, st3, ?_, by omega, ok, (c1.trans c2).trans c3⟩
  unfold m__law_longs d__law_longs
  have t3 : st3.take st.length = st3 := by rw [← ((c1.trans c2).trans c3).len]; simp
  have hr : (rangeD 0 (1 + v2).toNat).length ≤ 1000000 := by rw [rangeD_len]; omega
  simp [e1, e2, tupW, rg1_ok (i := 1 + v2) _ (by omega) (by omega), wipeE, e3, t3, hr]
theorem r_joints {p : Nat} {st : Sto} (h : Pen p st) : ∃ (a b : Int) (st' : Sto), m__law_joints [.r p] st = .ok (.d (.tuple [.int a, .int b])) st' ∧ (0 ≤ a ∧ a ≤ b ∧ b ≤ 9) ∧ Pn p st st' := by
  obtain ⟨v1, st1, e1, a1, b1, c1⟩ := r_draw 10 h (by decide) (by decide)
  obtain ⟨v2, st2, e2, a2, b2, c2⟩ := r_draw 3 c1.pen (by decide) (by decide)
  obtain ⟨v3, st3, e3, a3, b3, c3⟩ := r_draw 2 c2.pen (by decide) (by decide)
  obtain ⟨low, hlow, el⟩ := atD_mem (xs := [PyData.int 0, .int 1, .int v1]) a2 (by simpa using b2)
  obtain ⟨low, rfl, l1, l2⟩ : ∃ u, low = .int u ∧ 0 ≤ u ∧ u ≤ 9 := by
    simp at hlow
    rcases hlow with rfl | rfl | rfl
    · exact ⟨_, rfl, by decide, by decide⟩
    · exact ⟨_, rfl, by decide, by decide⟩
    · exact ⟨_, rfl, by omega, by omega⟩
  generalize hmn : (if 10 - low < 3 then 10 - low else 3) = mn
  obtain ⟨w, hw, ew⟩ := atD_mem (xs := [PyData.int (10 - low), .int mn]) a3 (by simpa using b3)
  obtain ⟨w, rfl, w1, w2⟩ : ∃ u, w = .int u ∧ 0 < u ∧ u ≤ 10 - low := by
    have : 0 < mn ∧ mn ≤ 10 - low := by rw [← hmn]; split <;> omega
    simp at hw
    rcases hw with rfl | rfl
    · exact ⟨_, rfl, by omega, by omega⟩
    · exact ⟨_, rfl, this.1, this.2⟩
  obtain ⟨v4, st4, e4, a4, b4, c4⟩ := r_draw w c3.pen w1 (by omega)
  have c := ((c1.trans c2).trans c3).trans c4
  refine ⟨low, low + v4, st4, ?_, by omega, c⟩
  have t4 : st4.take st.length = st4 := by rw [← c.len]; simp
  unfold m__law_joints d__law_joints
  simp [e1, e2, e3, lstW, el, hmn, ew, e4, tupW, t4]
end
section
variable [Tbl]
/-- longs that are longs -/
structure Lg (ls : List Int) : Prop where
  n : 1 ≤ ls.length ∧ ls.length ≤ 12
  b : ∀ l ∈ ls, 1 ≤ l ∧ l ≤ 20
theorem Lg.sum {ls : List Int} (h : Lg ls) : (ls.length : Int) ≤ ls.sum ∧ ls.sum ≤ 20 * ls.length := by
  have := sum_le h.b
  omega
theorem r_span {p : Nat} {st : Sto} (h : Pen p st) {ls : List Int} (L : Lg ls) {a b : Int} (J : 0 ≤ a ∧ a ≤ b ∧ b ≤ 9) : ∃ (s : Int) (st' : Sto), m__law_span [.r p, .d (.tuple (ls.map .int)), .d (.tuple [.int a, .int b])] st = .ok (.d (.int s)) st' ∧ (1 ≤ s ∧ s ≤ 80) ∧ Pn p st st' := by
  have n1 := L.n
  have big : ∀ {i : Int}, 0 ≤ i → i ≤ 9 → bigOk ((ls.length : Int) - 1) i = true := fun h1 h2 => big_l (by omega) (by omega)
  have ba := big J.1 (by omega)
  have bb := big (i := b) (by omega) (by omega)
  generalize hlo : ls.sum + ((ls.length : Int) - 1) * a = lo
  generalize hhi : ls.sum + ((ls.length : Int) - 1) * b = hi
  have hd : 0 ≤ hi - lo ∧ hi - lo ≤ 99 := by
    have e : hi - lo = ((ls.length : Int) - 1) * (b - a) := by rw [← hlo, ← hhi, Int.mul_sub]; omega
    have m1 : (0 : Int) ≤ (ls.length : Int) - 1 := by omega
    refine ⟨by rw [e]; exact Int.mul_nonneg m1 (by omega), ?_⟩
    rw [e]
    have := Int.mul_le_mul (show (ls.length : Int) - 1 ≤ 11 by omega) (show b - a ≤ 9 by omega) (by omega) (by decide)
    omega
  obtain ⟨v1, st1, e1, a1, b1, c1⟩ := r_draw 5 h (by decide) (by decide)
  obtain ⟨v2, st2, e2, a2, b2, c2⟩ := r_draw (hi - lo + 1) c1.pen (by omega) (by omega)
  obtain ⟨v3, st3, e3, a3, b3, c3⟩ := r_draw 4 c2.pen (by decide) (by decide)
  obtain ⟨v4, st4, e4, a4, b4, c4⟩ := r_draw 9 c3.pen (by decide) (by decide)
  obtain ⟨f, hf, ef⟩ := atD_mem (xs := [PyData.int lo, .int hi, .int (lo + v2), .int (hi + (1 + v3)), .int (lo - (1 + v4))]) a1 (by simpa using b1)
  obtain ⟨f, rfl⟩ : ∃ u, f = .int u := by
    simp at hf
    rcases hf with rfl | rfl | rfl | rfl | rfl <;> exact ⟨_, rfl⟩
  have c := ((c1.trans c2).trans c3).trans c4
  refine ⟨if (if f < 80 then f else 80) > 1 then (if f < 80 then f else 80) else 1, st4, ?_, by split <;> split <;> omega, c⟩
  have t4 : st4.take st.length = st4 := by rw [← c.len]; simp
  unfold m__law_span d__law_span
  simp [ba, bb, hlo, hhi, e1, e2, e3, e4, lstW, ef, t4]
end
section
variable [Tbl]
def isWhole : PyData → Bool
  | .int _ => true
  | _ => false
def isFT (d : PyData) (a b : Int) : Bool := match d with
  | .int i => decide (a ≤ i) && decide (i ≤ b)
  | _ => false
theorem r_is_whole (d : PyData) (st : Sto) : m_is_whole [.d d] st = .ok (.d (.bool (isWhole d))) st := by
  unfold m_is_whole d_is_whole
  cases d <;> simp [isWhole]
theorem r_is_from_to (d : PyData) (a b : Int) (st : Sto) : m_is_from_to [.d d, .d (.int a), .d (.int b)] st = .ok (.d (.bool (isFT d a b))) st := by
  unfold m_is_from_to d_is_from_to
  cases d <;> simp [isFT, isWhole, r_is_whole]
theorem r_are_longs {ls : List Int} (L : Lg ls) (st : Sto) : m_are_longs [.d (.tuple (ls.map .int))] st = .ok (.d (.bool true)) st := by
  have n1 := L.n
  have h1 : (1 : Int) ≤ ls.length := by omega
  have h2 : (ls.length : Int) ≤ 12 := by omega
  have e1 := lcL_map (g := gN 2) (c := eCall m_is_from_to (aCons (eVar 2) (aCons (eK (.int 1)) (aCons (eK w_MOST_STONE) aNil)))) (env := [some (.d (.tuple (ls.map .int))), none, none]) (st := st) (f := fun x => .bool (isFT x 1 20)) (ls.map .int) [] fun x hx => ⟨_, rfl, by simp [r_is_from_to, w_MOST_STONE]⟩
  have e2 : (ls.map PyData.int).all (fun x => isFT x 1 20) = true := by
    rw [List.all_eq_true]
    intro x hx
    obtain ⟨l, hl, rfl⟩ := List.mem_map.mp hx
    have := L.b l hl
    simp [isFT, this]
  have e3 := o_all' (ls.map PyData.int) fun x => isFT x 1 20
  rw [e2] at e3
  unfold m_are_longs d_are_longs
  simp [h1, h2, w_MOST_STONES, srcW, wipeE, show ls.length ≤ 1000000 by omega]
  rw [e1]
  simp only [List.nil_append, Rs.bind_ok, looks_d, looks_nil, Option.map_some, e3]
  simp
theorem r_need_longs {ls : List Int} (L : Lg ls) (st : Sto) : m_need_longs [.d (.tuple (ls.map .int))] st = .ok (.d .none) st := by
  unfold m_need_longs d_need_longs
  simp [r_are_longs L]
theorem r_need_span {s : Int} (hs : 1 ≤ s ∧ s ≤ 80) (st : Sto) : m_need_span [.d (.int s)] st = .ok (.d .none) st := by
  unfold m_need_span d_need_span m_is_span d_is_span
  simp [r_is_from_to, w_MOST_SPAN, isFT, hs]
end
section
variable [Tbl]
def fitB (ls : List Int) (s a b : Int) : Bool := decide (((ls.length : Int) - 1) * a ≤ s - ls.sum) && decide (s - ls.sum ≤ ((ls.length : Int) - 1) * b)
theorem r_rest {ls : List Int} (s : Int) (st : Sto) : m_rest_of [.d (.tuple (ls.map .int)), .d (.int s)] st = .ok (.d (.int (s - ls.sum))) st := by
  unfold m_rest_of d_rest_of
  simp
theorem r_fit {ls : List Int} (L : Lg ls) (s a b : Int) (st : Sto) : m_fit [.d (.tuple (ls.map .int)), .d (.int s), .d (.tuple [.int a, .int b])] st = .ok (.d (.bool (fitB ls s a b))) st := by
  have n1 := L.n
  have ba : ∀ i, bigOk ((ls.length : Int) - 1) i = true := fun i => big_l (by omega) (by omega)
  unfold m_fit d_fit
  simp [ba, fitB, r_rest]
theorem r_need_all {ls : List Int} (L : Lg ls) {s a b : Int} (hs : 1 ≤ s ∧ s ≤ 80) (J : 0 ≤ a ∧ a ≤ b ∧ b ≤ 9) (st : Sto) : m_need_all [.d (.tuple (ls.map .int)), .d (.int s), .d (.tuple [.int a, .int b])] st = .ok (.d .none) st := by
  have j1 := J.1
  have j2 := J.2.1
  have j3 := J.2.2
  have j4 : a ≤ 9 := by omega
  have e1 : m_need_longs [.d (.tuple (ls.map .int))] st = .ok (.d .none) st := by
    unfold m_need_longs d_need_longs
    simp [r_are_longs L]
  have e2 : m_need_span [.d (.int s)] st = .ok (.d .none) st := by
    unfold m_need_span d_need_span m_is_span d_is_span
    simp [r_is_from_to, w_MOST_SPAN, isFT, hs]
  have e3 : m_need_joints [.d (.tuple [.int a, .int b])] st = .ok (.d .none) st := by
    unfold m_need_joints d_need_joints m_are_joints d_are_joints
    simp [r_is_from_to, w_MOST_JOINT, isFT, j1, j2, j3, j4]
  unfold m_need_all d_need_all
  simp [e1, e2, e3]
def fN (t m i : Nat) : Nat := t / m + if i < t % m then 1 else 0
def fI (t m i : Nat) : Int := ((fN t m i : Nat) : Int)
theorem fI_eq (t m i : Nat) : (t : Int) / (m : Int) + (if (i : Int) < (t : Int) % (m : Int) then 1 else 0) = fI t m i := by
  unfold fI fN
  rw [← Int.natCast_ediv, ← Int.natCast_emod]
  by_cases q : i < t % m
  · rw [if_pos (by omega), if_pos q]; omega
  · rw [if_neg (by omega), if_neg q]; omega
def sp (ls : List Int) (f : Nat → Int) : Nat → Int
  | 0 => 0
  | k + 1 => sp ls f k + (ls[k]?).getD 0 + f k
def stL (ls : List Int) (f : Nat → Int) (k : Nat) : List PyData := (List.range k).map (fun i => PyData.int (sp ls f i)) ++ [.int (sp ls f k)]
theorem stL_succ (ls : List Int) (f : Nat → Int) (k : Nat) : stL ls f (k + 1) = stL ls f k ++ [.int (sp ls f (k + 1))] := by
  unfold stL
  rw [List.range_succ, List.map_append]
  rfl
theorem stL_len (ls : List Int) (f : Nat → Int) (k : Nat) : (stL ls f k).length = k + 1 := by simp [stL]
theorem get_map {ls : List Int} {k : Nat} (h : k < ls.length) : atD (ls.map PyData.int) (k : Nat) = some (.int ((ls[k]?).getD 0)) := by
  rw [atD_nat]
  simp [h]
theorem sb_turn {ls : List Int} {m r i : Nat} (hm : ls.length = m + 1) (hm2 : m < 1000) (s : Int) (hi : i < m) (x5 x6 : Option Wv) (st : Sto) : d_spread_by_l1 [some (.d (.tuple (ls.map .int))), some (.d (.int s)), some (.d (.int (m : Int))), some (.d (.int (r : Int))), some (.r st.length), some (.d (.int (0 + (i : Nat)))), x6] (st ++ [.lst (stL ls (fI r m) i)]) =
    .nx [some (.d (.tuple (ls.map .int))), some (.d (.int s)), some (.d (.int (m : Int))), some (.d (.int (r : Int))), some (.r st.length), some (.d (.int (0 + (i : Nat)))), some (.d (.int (fI r m i)))] (st ++ [.lst (stL ls (fI r m) (i + 1))]) := by
  have e1 : (st ++ [Ob.lst (stL ls (fI r m) i)])[st.length]? = some (.lst (stL ls (fI r m) i)) := by simp
  have hm0 : 0 < m := by omega
  have hm1 : (m : Int) < 1073741824 := by omega
  have last : atD (stL ls (fI r m) i) (-1) = some (.int (sp ls (fI r m) i)) := atD_last _ _
  have at' := get_map (ls := ls) (k := i) (by omega)
  have ef := fI_eq r m i
  have hl : (stL ls (fI r m) i).length < 1000000 := by rw [stL_len]; omega
  unfold d_spread_by_l1
  rw [stL_succ]
  simp [hm0, hm1, ef, isLst_l e1, look1_l e1, last, at', appW_l e1 hl, sp]
theorem new1 (x : PyData) (st : Sto) : newW [.d x] st = .ok (.r st.length) (st ++ [.lst [x]]) := by simp [newW]
theorem r_spread_by {ls : List Int} {m r : Nat} (hm : ls.length = m + 1) (hm2 : m < 1000) {s : Int} (hs : s - ls.sum = (r : Int)) (st : Sto) : m_spread_by [.d (.tuple (ls.map .int)), .d (.int s)] st = .ok (.d (.tuple (stL ls (fI r m) m))) st := by
  obtain ⟨env, st', e1, x5, x6, rfl, rfl⟩ := forL_goI (g := gN 5) (b := d_spread_by_l1) (fun k env st' => ∃ x5 x6 : Option Wv, env = [some (.d (.tuple (ls.map .int))), some (.d (.int s)), some (.d (.int (m : Int))), some (.d (.int (r : Int))), some (.r st.length), x5, x6] ∧ st' = st ++ [.lst (stL ls (fI r m) k)]) (rangeD 0 m) 0 (fun i x hx env st' hI => by
    obtain ⟨hi, rfl⟩ := rangeD_get hx
    rw [Nat.zero_add] at hI ⊢
    obtain ⟨x5, x6, rfl, rfl⟩ := hI
    exact ⟨_, _, _, rfl, sb_turn hm hm2 s hi x5 x6 st, ⟨_, _, rfl, rfl⟩⟩) [some (.d (.tuple (ls.map .int))), some (.d (.int s)), some (.d (.int (m : Int))), some (.d (.int (r : Int))), some (.r st.length), none, none] (st ++ [.lst [.int 0]]) ⟨none, none, rfl, rfl⟩
  rw [rangeD_len, Nat.zero_add] at e1
  have e2 : (st ++ [Ob.lst (stL ls (fI r m) m)])[st.length]? = some (.lst (stL ls (fI r m) m)) := by simp
  have hl : (ls.length : Int) - 1 = m := by omega
  have rg := fun st => rg1_ok (i := (m : Int)) st (by omega) (by omega)
  unfold m_spread_by d_spread_by
  simp -implicitDefEqProofs [hl, r_rest, hs, new1, rg, e1, looks, look_l e2]
theorem r_spread {ls : List Int} (L : Lg ls) {m r : Nat} (hm : ls.length = m + 1) {s a b : Int} (hs : 1 ≤ s ∧ s ≤ 80) (J : 0 ≤ a ∧ a ≤ b ∧ b ≤ 9) (hr : fitB ls s a b = true → s - ls.sum = (r : Int)) (st : Sto) : m_spread [.d (.tuple (ls.map .int)), .d (.int s), .d (.tuple [.int a, .int b])] st = .ok (.d (if fitB ls s a b = true then .tuple (stL ls (fI r m) m) else .none)) st := by
  have n1 := L.n
  unfold m_spread d_spread
  cases f : fitB ls s a b
  · simp -implicitDefEqProofs [r_need_all L hs J, r_fit L, f]
  · simp -implicitDefEqProofs [r_need_all L hs J, r_fit L, f, r_spread_by hm (by omega) (hr f)]
end
section
variable [Tbl]
/-! ## kept lambdas, all told alike -/
@[simp] theorem x_lm (j : Nat) (c : En → Sto → SR) (env : En) (st : Sto) : sLm j c env st = if j < env.length then c (env.set j none) st else .no := rfl
theorem goK_all {T : Option Str} {fl : Xc → Option PyData} {env : En} {X : PyData} : ∀ (cls : List (En → Sto → Rs Wv)) (acc : List PyData) (st : Sto), (∀ cl ∈ cls, ∀ st, saidR T fl st.length (cl env st) = .ok (.d X) st) → goK T fl env cls acc st = .ok (acc ++ List.replicate cls.length X) st
  | [], acc, st, _ => by simp
  | cl :: r, acc, st, h => by
    rw [goK_cons (h cl (by simp) st), goK_all r (acc ++ [X]) st fun c hc => h c (by simp [hc])]
    simp [List.replicate_succ]
theorem lams_all {T : Option Str} {fl : Xc → Option PyData} {env : En} {X : PyData} {cls : List (En → Sto → Rs Wv)} {st : Sto} (h : ∀ cl ∈ cls, ∀ st, saidR T fl st.length (cl env st) = .ok (.d X) st) : eLams T fl cls env st = .ok (.d (.list (List.replicate cls.length X))) st := by
  unfold eLams
  rw [goK_all cls [] st h]
  rfl
theorem said_of_ex {T : Option Str} {fl : Xc → Option PyData} {c : Sto → Rs Wv} {e : Xc} {X : PyData} (hf : fl e = some X) (h : ∀ st, c st = .ex e st) (st : Sto) : saidR T fl st.length (c st) = .ok (.d X) st := by
  rw [h st, saidR_ex T fl _ hf, List.take_length]
end
section
variable [Tbl]
@[simp] theorem x_end_ex (n : Nat) (e : Xc) (st : Sto) : endS n (.ex e st) = .ex e (st.take n) := rfl
/-! ## what is refused -/
def isLongs : PyData → Bool
  | .tuple xs => decide (1 ≤ xs.length) && decide (xs.length ≤ 12) && xs.all fun x => isFT x 1 20
  | _ => false
theorem al_no {d : PyData} (h : isaD "tuple" d = some (.bool false)) (st : Sto) : m_are_longs [.d d] st = .ok (.d (.bool false)) st := by
  unfold m_are_longs d_are_longs
  simp -implicitDefEqProofs [h]
theorem nl_bad {d : PyData} (h : isLongs d = false) (st : Sto) : m_need_longs [.d d] st = .ex ⟨"NoLongs", []⟩ st := by
  have e0 : ∀ st, m_are_longs [.d d] st = .ok (.d (.bool false)) st := fun st => by
    cases d with
    | tuple xs =>
      unfold m_are_longs d_are_longs
      by_cases h1 : 1 ≤ xs.length
      · by_cases h2 : xs.length ≤ 12
        · have e1 := lcL_map (g := gN 2) (c := eCall m_is_from_to (aCons (eVar 2) (aCons (eK (.int 1)) (aCons (eK w_MOST_STONE) aNil)))) (env := [some (.d (.tuple xs)), none, none]) (st := st) (f := fun x => .bool (isFT x 1 20)) xs [] fun x hx => ⟨_, rfl, by simp [r_is_from_to, w_MOST_STONE]⟩
          have e3 := o_all' xs fun x => isFT x 1 20
          have h3 : xs.all (fun x => isFT x 1 20) = false := by simpa [isLongs, h1, h2] using h
          rw [h3] at e3
          rw [List.nil_append] at e1
          have k1 : (1 : Int) ≤ xs.length := by omega
          have k2 : (xs.length : Int) ≤ 12 := by omega
          have k3 : xs.length ≤ 1000000 := by omega
          generalize xs.map (fun x => PyData.bool (isFT x 1 20)) = Z at *
          simp -implicitDefEqProofs [k1, k2, k3, w_MOST_STONES, srcW_dt, wipeE, e1, e3]
        · have k1 : (1 : Int) ≤ xs.length := by omega
          have k2 : ¬ (xs.length : Int) ≤ 12 := by omega
          simp -implicitDefEqProofs [k1, k2, w_MOST_STONES]
      · have k1 : ¬ (1 : Int) ≤ xs.length := by omega
        simp -implicitDefEqProofs [k1, w_MOST_STONES]
    | _ => exact al_no rfl st
  unfold m_need_longs d_need_longs
  simp -implicitDefEqProofs [e0]
theorem ns_bad {d : PyData} (h : isFT d 1 80 = false) (st : Sto) : m_need_span [.d d] st = .ex ⟨"NoSpan", []⟩ st := by
  have e := fun st => r_is_from_to d 1 80 st
  rw [h] at e
  unfold m_need_span d_need_span m_is_span d_is_span
  simp -implicitDefEqProofs [e, w_MOST_SPAN]
def vI : PyData → Int
  | .int i => i
  | _ => 0
def isJ : PyData → Bool
  | .tuple [x, y] => isFT x 0 9 && isFT y (vI x) 9
  | _ => false
theorem aj_no {d : PyData} (h : isaD "tuple" d = some (.bool false)) (st : Sto) : m_are_joints [.d d] st = .ok (.d (.bool false)) st := by
  unfold m_are_joints d_are_joints
  simp -implicitDefEqProofs [h]
theorem nj_bad {d : PyData} (h : isJ d = false) (st : Sto) : m_need_joints [.d d] st = .ex ⟨"NoJoints", []⟩ st := by
  have e0 : ∀ st, m_are_joints [.d d] st = .ok (.d (.bool false)) st := fun st => by
    cases d with
    | tuple xs =>
      unfold m_are_joints d_are_joints
      match xs, h with
      | [], _ => simp -implicitDefEqProofs
      | [a], _ => simp -implicitDefEqProofs
      | [a, b], h =>
        have q := fun st => r_is_from_to a 0 9 st
        cases ha : isFT a 0 9 with
        | false =>
          rw [ha] at q
          simp -implicitDefEqProofs [q, w_MOST_JOINT]
        | true =>
          rw [ha] at q
          obtain ⟨i, rfl⟩ : ∃ i, a = .int i := by cases a <;> first | exact ⟨_, rfl⟩ | cases ha
          have q2 := fun st => r_is_from_to b i 9 st
          have hb : isFT b i 9 = false := by
            have h : (isFT (.int i) 0 9 && isFT b i 9) = false := h
            rw [ha] at h
            exact h
          rw [hb] at q2
          simp -implicitDefEqProofs [q, q2, w_MOST_JOINT]
      | a :: b :: c :: r, _ =>
        have n : ¬ ((r.length : Int) + 1 + 1 + 1 = 2) := by omega
        simp -implicitDefEqProofs [n]
    | _ => exact aj_no rfl st
  unfold m_need_joints d_need_joints
  simp -implicitDefEqProofs [e0]
def isSpans : PyData → Bool
  | .tuple xs => decide (1 ≤ xs.length) && decide (xs.length ≤ 6) && xs.all fun x => isFT x 1 80
  | _ => false
theorem nss_no {d : PyData} (h : isaD "tuple" d = some (.bool false)) (st : Sto) : m_need_spans [.d d] st = .ex ⟨"NoSpan", []⟩ st := by
  unfold m_need_spans d_need_spans
  simp -implicitDefEqProofs [h]
theorem nss_is (d : PyData) (st : Sto) : m_need_spans [.d d] st = if isSpans d = true then .ok (.d .none) st else .ex ⟨"NoSpan", []⟩ st := by
  cases d with
  | tuple xs =>
    unfold m_need_spans d_need_spans
    by_cases h1 : 1 ≤ xs.length
    · by_cases h2 : xs.length ≤ 6
      · have e1 := lcL_map (g := gN 2) (c := eCall m_is_span (aCons (eVar 2) aNil)) (env := [some (.d (.tuple xs)), none, none]) (st := st) (f := fun x => .bool (isFT x 1 80)) xs [] fun x hx => ⟨_, rfl, by simp [m_is_span, d_is_span, r_is_from_to, w_MOST_SPAN]⟩
        have e3 := o_all' xs fun x => isFT x 1 80
        have e4 : isSpans (.tuple xs) = xs.all fun x => isFT x 1 80 := by simp [isSpans, h1, h2]
        rw [List.nil_append] at e1
        rw [e4]
        have k1 : (1 : Int) ≤ xs.length := by omega
        have k2 : (xs.length : Int) ≤ 6 := by omega
        have k3 : xs.length ≤ 1000000 := by omega
        generalize (xs.all fun x => isFT x 1 80) = q at *
        generalize xs.map (fun x => PyData.bool (isFT x 1 80)) = Z at *
        cases q <;> simp -implicitDefEqProofs [k1, k2, k3, w_MOST_SPANS, srcW_dt, wipeE, e1, e3]
      · have k1 : (1 : Int) ≤ xs.length := by omega
        have k2 : ¬ (xs.length : Int) ≤ 6 := by omega
        have e4 : isSpans (.tuple xs) = false := by simp [isSpans, h2]
        rw [e4]
        simp -implicitDefEqProofs [k1, k2, w_MOST_SPANS]
    · have k1 : ¬ (1 : Int) ≤ xs.length := by omega
      have e4 : isSpans (.tuple xs) = false := by simp [isSpans, h1]
      rw [e4]
      simp -implicitDefEqProofs [k1, w_MOST_SPANS]
  | _ => exact nss_no rfl st
/-! ### all three -/
section
variable {a b c : PyData} {ls : List Int} (L : Lg ls)
theorem na_l (h : isLongs a = false) (st : Sto) : m_need_all [.d a, .d b, .d c] st = .ex ⟨"NoLongs", []⟩ st := by
  have e := fun st => nl_bad h st
  unfold m_need_all d_need_all
  simp -implicitDefEqProofs [e]
theorem nm_l (h : isLongs a = false) (st : Sto) : m_need_some [.d a, .d b, .d c] st = .ex ⟨"NoLongs", []⟩ st := by
  have e := fun st => nl_bad h st
  unfold m_need_some d_need_some
  simp -implicitDefEqProofs [e]
include L
theorem na_s (h : isFT b 1 80 = false) (st : Sto) : m_need_all [(.d (.tuple ((ls).map .int))), .d b, .d c] st = .ex ⟨"NoSpan", []⟩ st := by
  have e1 := fun st => r_need_longs L st
  have e := fun st => ns_bad h st
  generalize PyData.tuple (ls.map .int) = PL at *
  unfold m_need_all d_need_all
  simp -implicitDefEqProofs [e1, e]
theorem na_j {s : Int} (hs : 1 ≤ s ∧ s ≤ 80) (h : isJ c = false) (st : Sto) : m_need_all [(.d (.tuple ((ls).map .int))), (.d (.int (s))), .d c] st = .ex ⟨"NoJoints", []⟩ st := by
  have e1 := fun st => r_need_longs L st
  have e2 := fun st => r_need_span hs st
  have e := fun st => nj_bad h st
  generalize PyData.tuple (ls.map .int) = PL at *
  unfold m_need_all d_need_all
  simp -implicitDefEqProofs [e1, e2, e]
theorem nm_s (h : isSpans b = false) (st : Sto) : m_need_some [(.d (.tuple ((ls).map .int))), .d b, .d c] st = .ex ⟨"NoSpan", []⟩ st := by
  have e1 := fun st => r_need_longs L st
  have e := fun st => nss_is b st
  rw [h] at e
  have e : ∀ st, m_need_spans [.d b] st = .ex ⟨"NoSpan", []⟩ st := e
  generalize PyData.tuple (ls.map .int) = PL at *
  unfold m_need_some d_need_some
  simp -implicitDefEqProofs [e1, e]
theorem nm_j (hb : isSpans b = true) (h : isJ c = false) (st : Sto) : m_need_some [(.d (.tuple ((ls).map .int))), .d b, .d c] st = .ex ⟨"NoJoints", []⟩ st := by
  have e1 := fun st => r_need_longs L st
  have e2 := fun st => nss_is b st
  rw [hb] at e2
  have e2 : ∀ st, m_need_spans [.d b] st = .ok (.d .none) st := e2
  have e := fun st => nj_bad h st
  generalize PyData.tuple (ls.map .int) = PL at *
  unfold m_need_some d_need_some
  simp -implicitDefEqProofs [e1, e2, e]
end
theorem fl_L : fl__law_word ⟨"NoLongs", []⟩ = some (.tuple [.str "longs"]) := rfl
theorem fl_S : fl__law_word ⟨"NoSpan", []⟩ = some (.tuple [.str "span"]) := rfl
theorem fl_J : fl__law_word ⟨"NoJoints", []⟩ = some (.tuple [.str "joints"]) := rfl
section
variable {a b c X : PyData} {e : Xc}
theorem calls_bad (h : ∀ st, m_need_all [.d a, .d b, .d c] st = .ex e st) (hf : fl__law_word e = some X) (st : Sto) : eLams told__law_word fl__law_word cs__law_calls [some (.d a), some (.d b), some (.d c), none] st = .ok (.d (.list (List.replicate 6 X))) st := by
  refine lams_all (X := X) (cls := cs__law_calls) fun cl hcl st => ?_
  have key : ∀ st, cl [some (.d a), some (.d b), some (.d c), none] st = .ex e st := fun st => by
    unfold cs__law_calls at hcl
    simp only [List.mem_cons, List.not_mem_nil, or_false] at hcl
    rcases hcl with rfl | rfl | rfl | rfl | rfl | rfl
    · unfold m_fits d_fits; simp -implicitDefEqProofs [h]
    · unfold m_is_laying d_is_laying; simp -implicitDefEqProofs [h]
    · unfold m_layings_many d_layings_many; simp -implicitDefEqProofs [h]
    · unfold m_spread d_spread; simp -implicitDefEqProofs [h]
    · unfold m_tight d_tight; simp -implicitDefEqProofs [h]
    · unfold m_cut_to d_cut_to; simp -implicitDefEqProofs [h]
  exact said_of_ex hf key st
theorem more_bad (h : ∀ st, m_need_some [.d a, .d b, .d c] st = .ex e st) (hf : fl__law_word e = some X) (st : Sto) : eLams told__law_word fl__law_word cs__law_more [some (.d a), some (.d b), some (.d c), none] st = .ok (.d (.list (List.replicate 7 X))) st := by
  refine lams_all (X := X) (cls := cs__law_more) fun cl hcl st => ?_
  have nb : ∀ k st, m_need_bound [.d a, .d b, .d c, .d k] st = .ex e st := fun k st => by
    unfold m_need_bound d_need_bound; simp -implicitDefEqProofs [h]
  have key : ∀ st, cl [some (.d a), some (.d b), some (.d c), none] st = .ex e st := fun st => by
    unfold cs__law_more at hcl
    simp only [List.mem_cons, List.not_mem_nil, or_false] at hcl
    rcases hcl with rfl | rfl | rfl | rfl | rfl | rfl | rfl
    · unfold m_parting d_parting; simp -implicitDefEqProofs [h]
    · unfold m_fewest_cuts d_fewest_cuts; simp -implicitDefEqProofs [h]
    · unfold m_levels d_levels; simp -implicitDefEqProofs [h]
    · unfold m_stuck d_stuck; simp -implicitDefEqProofs [h]
    · unfold m_levels_hold d_levels_hold; simp -implicitDefEqProofs [h]
    · unfold m_cut_marks d_cut_marks; simp -implicitDefEqProofs [nb]
    · unfold m_marks_hold d_marks_hold; simp -implicitDefEqProofs [nb]
  exact said_of_ex hf key st
end
end
section
variable [Tbl]
theorem mu6 (w : PyData) : mulD (.list [w]) (.int 6) = some (.list (List.replicate 6 w)) := rfl
theorem mu7 (w : PyData) : mulD (.list [w]) (.int 7) = some (.list (List.replicate 7 w)) := rfl
theorem q6 : ∀ w ∈ [PyData.tuple [.str "longs"], .tuple [.str "span"], .tuple [.str "joints"]], neD (.list (List.replicate 6 w)) (.list (List.replicate 6 w)) = some (.bool false) ∧ neD (.list (List.replicate 7 w)) (.list (List.replicate 7 w)) = some (.bool false) := fun w hw => by
  simp only [List.mem_cons, List.not_mem_nil, or_false] at hw
  rcases hw with rfl | rfl | rfl <;> exact ⟨rfl, rfl⟩
/-! ## the turns -/
section
variable (v0 v1 v2 v6 v7 v8 v10 v11 v12 : Option Wv)
theorem t1 {d : PyData} (h : isLongs d = false) (v3 : Option Wv) (JD : PyData) (s : Int) (st : Sto) : d_law_l1 [v0, v1, v2, v3, some (.d JD), some (.d (.int (s))), v6, v7, v8, some (.d d), v10, v11, v12] st = .nx [v0, v1, v2, v3, some (.d JD), some (.d (.int (s))), v6, v7, v8, none, v10, v11, v12] st := by
  have c1 := fun st => calls_bad (b := .none) (c := JD) (fun st => na_l h st) fl_L st
  have m1 := fun st => more_bad (b := .tuple [.int s]) (c := .none) (fun st => nm_l h st) fl_L st
  have tw : ∀ st, tupW [.d (.str "longs")] st = .ok (.d (.tuple [.str "longs"])) st := fun st => rfl
  have ts : ∀ st, tupW [(.d (.int (s)))] st = .ok (.d (.tuple [.int s])) st := fun st => rfl
  obtain ⟨n6, n7⟩ := q6 (.tuple [.str "longs"]) (by simp)
  generalize PyData.tuple [.str "longs"] = Wd at *
  generalize PyData.tuple [.int s] = SD at *
  have lw : ∀ st, lstW [.d Wd] st = .ok (.d (.list [Wd])) st := fun st => rfl
  have a6 := mu6 Wd
  have a7 := mu7 Wd
  generalize List.replicate 6 Wd = L6 at *
  generalize List.replicate 7 Wd = L7 at *
  unfold d_law_l1
  simp -implicitDefEqProofs [c1, m1, tw, ts, lw, a6, a7, n6, n7, wipeE, -o_mul_l]
section
variable {ls : List Int} (L : Lg ls)
include L
theorem t2 {d : PyData} (h : isFT d 1 80 = false) (v4 : Option Wv) {s : Int} (hs : 1 ≤ s ∧ s ≤ 80) (st : Sto) : d_law_l2 [v0, v1, v2, some (.d (.tuple ((ls).map .int))), v4, some (.d (.int (s))), v6, v7, v8, some (.d d), v10, v11, v12] st = .nx [v0, v1, v2, some (.d (.tuple ((ls).map .int))), v4, some (.d (.int (s))), v6, v7, v8, none, v10, v11, v12] st := by
  have hb : isSpans (.tuple [.int s, d]) = false := by simp [isSpans, h]
  have c1 := fun st => calls_bad (c := .none) (fun st => na_s L h st) fl_S st
  have m1 := fun st => more_bad (c := .none) (fun st => nm_s L hb st) fl_S st
  have tw : ∀ st, tupW [.d (.str "span")] st = .ok (.d (.tuple [.str "span"])) st := fun st => rfl
  have ts : ∀ st, tupW [(.d (.int (s))), .d d] st = .ok (.d (.tuple [.int s, d])) st := fun st => rfl
  obtain ⟨n6, n7⟩ := q6 (.tuple [.str "span"]) (by simp)
  generalize PyData.tuple [.str "span"] = Wd at *
  generalize PyData.tuple [.int s, d] = SD at *
  generalize PyData.tuple (ls.map .int) = PL at *
  have lw : ∀ st, lstW [.d Wd] st = .ok (.d (.list [Wd])) st := fun st => rfl
  have a6 := mu6 Wd
  have a7 := mu7 Wd
  generalize List.replicate 6 Wd = L6 at *
  generalize List.replicate 7 Wd = L7 at *
  unfold d_law_l2
  simp -implicitDefEqProofs [c1, m1, tw, ts, lw, a6, a7, n6, n7, wipeE, -o_mul_l]
theorem t3 {d : PyData} (h : isSpans d = false) (JD : PyData) (v5 : Option Wv) (st : Sto) : d_law_l3 [v0, v1, v2, some (.d (.tuple ((ls).map .int))), some (.d JD), v5, v6, v7, v8, some (.d d), v10, v11, v12] st = .nx [v0, v1, v2, some (.d (.tuple ((ls).map .int))), some (.d JD), v5, v6, v7, v8, none, v10, v11, v12] st := by
  have m1 := fun st => more_bad (c := JD) (fun st => nm_s L h st) fl_S st
  have tw : ∀ st, tupW [.d (.str "span")] st = .ok (.d (.tuple [.str "span"])) st := fun st => rfl
  obtain ⟨_, n7⟩ := q6 (.tuple [.str "span"]) (by simp)
  generalize PyData.tuple [.str "span"] = Wd at *
  generalize PyData.tuple (ls.map .int) = PL at *
  have lw : ∀ st, lstW [.d Wd] st = .ok (.d (.list [Wd])) st := fun st => rfl
  have a7 := mu7 Wd
  generalize List.replicate 7 Wd = L7 at *
  unfold d_law_l3
  simp -implicitDefEqProofs [m1, tw, lw, a7, n7, wipeE, -o_mul_l]
theorem t4 {d : PyData} (h : isJ d = false) (v4 : Option Wv) {s : Int} (hs : 1 ≤ s ∧ s ≤ 80) (st : Sto) : d_law_l4 [v0, v1, v2, some (.d (.tuple ((ls).map .int))), v4, some (.d (.int (s))), v6, v7, v8, some (.d d), v10, v11, v12] st = .nx [v0, v1, v2, some (.d (.tuple ((ls).map .int))), v4, some (.d (.int (s))), v6, v7, v8, none, v10, v11, v12] st := by
  have hb : isSpans (.tuple [.int s]) = true := by simp [isSpans, isFT, hs]
  have c1 := fun st => calls_bad (fun st => na_j L hs h st) fl_J st
  have m1 := fun st => more_bad (fun st => nm_j L hb h st) fl_J st
  have tw : ∀ st, tupW [.d (.str "joints")] st = .ok (.d (.tuple [.str "joints"])) st := fun st => rfl
  have ts : ∀ st, tupW [(.d (.int (s)))] st = .ok (.d (.tuple [.int s])) st := fun st => rfl
  obtain ⟨n6, n7⟩ := q6 (.tuple [.str "joints"]) (by simp)
  generalize PyData.tuple [.str "joints"] = Wd at *
  generalize PyData.tuple [.int s] = SD at *
  generalize PyData.tuple (ls.map .int) = PL at *
  have lw : ∀ st, lstW [.d Wd] st = .ok (.d (.list [Wd])) st := fun st => rfl
  have a6 := mu6 Wd
  have a7 := mu7 Wd
  generalize List.replicate 6 Wd = L6 at *
  generalize List.replicate 7 Wd = L7 at *
  unfold d_law_l4
  simp -implicitDefEqProofs [c1, m1, tw, ts, lw, a6, a7, n6, n7, wipeE, -o_mul_l]
end
end
/-! ## what is handed in -/
def odd1 (xs : List Int) (z l0 : Int) : List PyData := [.none, .tuple [], .int l0, .list ((xs ++ [z]).map .int), .tuple (List.replicate 13 (.int 1)), .tuple (xs.map .int ++ [.int 0]), .tuple (xs.map .int ++ [.int 21]), .tuple (xs.map .int ++ [.bool true]), .dict []]
theorem odd1_bad (xs : List Int) (z l0 : Int) : ∀ d ∈ odd1 xs z l0 ++ [.tuple (xs.map .int ++ [.str "1"])], isLongs d = false := fun d hd => by
  unfold odd1 at hd
  simp only [List.mem_append, List.mem_cons, List.not_mem_nil, or_false] at hd
  rcases hd with (rfl | rfl | rfl | rfl | rfl | rfl | rfl | rfl | rfl) | rfl
  · rfl
  · rfl
  · rfl
  · rfl
  · simp [isLongs]
  · simp [isLongs, isFT, List.all_append]
  · simp [isLongs, isFT, List.all_append]
  · simp [isLongs, isFT, List.all_append]
  · rfl
  · simp [isLongs, isFT, List.all_append]
def odd2 : List PyData := [.none, .int 0, .int 81, .int (-1), .bool true, .str "5", .tuple [.int 5], .int 100000000000000000000000000000]
theorem odd2_bad : ∀ d ∈ odd2, isFT d 1 80 = false := fun d hd => by
  unfold odd2 at hd
  simp only [List.mem_cons, List.not_mem_nil, or_false] at hd
  rcases hd with rfl | rfl | rfl | rfl | rfl | rfl | rfl | rfl <;> first | rfl | decide
def odd3 (s : Int) : List PyData := [.none, .tuple [], .int s, .list [.int s], .tuple (List.replicate 7 (.int s)), .str "spans", .tuple [.tuple [.int s]]]
theorem odd3_bad (s : Int) : ∀ d ∈ odd3 s, isSpans d = false := fun d hd => by
  unfold odd3 at hd
  simp only [List.mem_cons, List.not_mem_nil, or_false] at hd
  rcases hd with rfl | rfl | rfl | rfl | rfl | rfl | rfl
  · rfl
  · rfl
  · rfl
  · rfl
  · simp [isSpans]
  · rfl
  · simp [isSpans, isFT]
def odd4 (a b : Int) : List PyData := [.none, .int a, .tuple [.int a], .tuple [.int a, .int b, .int 9], .list [.int a, .int b], .tuple [.int (-1), .int b], .tuple [.int 0, .int 10], .tuple [.int (b + 1), .int b], .tuple [.bool true, .int 9]]
theorem odd4_bad (a b : Int) : ∀ d ∈ odd4 a b ++ [.tuple [.int 0, .none]], isJ d = false := fun d hd => by
  unfold odd4 at hd
  simp only [List.mem_append, List.mem_cons, List.not_mem_nil, or_false] at hd
  rcases hd with (rfl | rfl | rfl | rfl | rfl | rfl | rfl | rfl | rfl) | rfl
  · rfl
  · rfl
  · rfl
  · rfl
  · rfl
  · simp [isJ, isFT]
  · simp [isJ, isFT, vI]
  · have e : isFT (.int b) (b + 1) 9 = false := by
      show (decide (b + 1 ≤ b) && decide (b ≤ 9)) = false
      rw [decide_eq_false (by omega)]
      rfl
    show (isFT (.int (b + 1)) 0 9 && isFT (.int b) (b + 1) 9) = false
    rw [e, Bool.and_false]
  · rfl
  · simp [isJ, isFT]
theorem for_same {g : Wv → En → Option En} {b : En → Sto → SR} {env : En} {st : Sto} (xs : List PyData) (h : ∀ x ∈ xs, ∃ env1, g (.d x) env = some env1 ∧ b env1 st = .nx env st) : forL g b [] xs env st = .nx env st := forL_at (fun _ => env) (fun _ => st) xs fun i x hx => h x (List.mem_of_getElem? hx)
theorem r_fits {ls : List Int} (L : Lg ls) {s a b : Int} (hs : 1 ≤ s ∧ s ≤ 80) (J : 0 ≤ a ∧ a ≤ b ∧ b ≤ 9) (st : Sto) : m_fits [(.d (.tuple ((ls).map .int))), (.d (.int (s))), .d (.tuple [.int a, .int b])] st = .ok (.d (.bool (fitB ls s a b))) st := by
  unfold m_fits d_fits
  simp -implicitDefEqProofs [r_need_all L hs J, r_fit L]
end
section
variable [Tbl]
theorem cut_last (xs : List Int) : cutD (xs.map PyData.int) none (some (-1)) = xs.dropLast.map .int := by
  unfold cutD
  rw [show HT.sIx (xs.map PyData.int).length 0 none = 0 from rfl, show HT.sIx (xs.map PyData.int).length (xs.map PyData.int).length (some (-1)) = xs.length - 1 from by unfold HT.sIx; simp; omega]
  simp [List.dropLast_eq_take]
theorem cell (sc : Wv) (c : Int) (st : Sto) : ∃ st', d_law_l5 [some sc, some (.d (.int (c))), none, none, none, none, none, none, none, none, none, none, none] st = .nx [some sc, none, none, none, none, none, none, none, none, none, none, none, none] st' := by
  obtain ⟨x1, x2, x3, e1⟩ := r_pen_of c st
  have hp : Pen st.length (st ++ [Ob.lst [.int x1, .int x2, .int x3]]) := ⟨x1, x2, x3, by simp⟩
  obtain ⟨ls, st1, e2, hn, hb, c1⟩ := r_longs hp (most := 12) (by decide) (by decide)
  obtain ⟨a, b, st2, e3, J, c2⟩ := r_joints c1.pen
  have L : Lg ls := ⟨by omega, hb⟩
  obtain ⟨s, st3, e4, hs, c3⟩ := r_span c2.pen L J
  obtain ⟨xs, z, rfl⟩ : ∃ xs z, ls = xs ++ [z] := ⟨_, _, (List.dropLast_concat_getLast (l := ls) (fun e => by rw [e] at hn; simp at hn)).symm⟩
  obtain ⟨l0, h0⟩ : ∃ l0, (xs ++ [z])[0]? = some l0 := ⟨_, List.getElem?_eq_getElem (by simp)⟩
  have xl : xs.length ≤ 12 := by have := L.n; simp at this; omega
  have sl : slD none (some (-1)) (.tuple ((xs ++ [z]).map PyData.int)) = some (.tuple (xs.map PyData.int)) := by rw [o_sl_t, cut_last, List.dropLast_concat]
  have il : ixD (.tuple ((xs ++ [z]).map PyData.int)) (.int (-1)) = some (.int z) := by
    show atD ((xs ++ [z]).map PyData.int) (-1) = _
    rw [List.map_append]
    exact atD_last _ _
  have i0 : ixD (.tuple ((xs ++ [z]).map PyData.int)) (.int 0) = some (.int l0) := by
    show atD ((xs ++ [z]).map PyData.int) ((0 : Nat) : Int) = _
    rw [atD_nat, List.getElem?_map, h0]; rfl
  have lf : lstF [.tuple ((xs ++ [z]).map PyData.int)] = some (.list ((xs ++ [z]).map PyData.int)) := rfl
  have m13 : mulD (.tuple [.int 1]) (.int 13) = some (.tuple (List.replicate 13 (.int 1))) := rfl
  have m7 : mulD (.tuple [.int s]) (.int 7) = some (.tuple (List.replicate 7 (.int s))) := rfl
  have ad : ∀ y, addD (.tuple (xs.map PyData.int)) (.tuple [y]) = some (.tuple (xs.map PyData.int ++ [y])) := fun y => by
    rw [o_add_t, if_pos]
    simp
    omega
  have lo1 : (odd1 xs z l0).length = 9 := rfl
  have lo4 : (odd4 a b).length = 9 := rfl
  have al : addD (.list (odd1 xs z l0)) (.list [.tuple (xs.map PyData.int ++ [.str "1"])]) = some (.list (odd1 xs z l0 ++ [PyData.tuple (xs.map PyData.int ++ [.str "1"])])) := by rw [o_add_l, lo1]; rfl
  have al4 : addD (.list (odd4 a b)) (.list [.tuple [.int 0, .none]]) = some (.list (odd4 a b ++ [PyData.tuple [.int 0, .none]])) := by rw [o_add_l, lo4]; rfl
  have L1 : ∀ st, lstW [.d .none, .d (.tuple []), (.d (.int (l0))), .d (.list ((xs ++ [z]).map PyData.int)), .d (.tuple (List.replicate 13 (.int 1))), .d (.tuple (xs.map PyData.int ++ [.int 0])), .d (.tuple (xs.map PyData.int ++ [.int 21])), .d (.tuple (xs.map PyData.int ++ [.bool true])), .d (.dict [])] st = .ok (.d (.list (odd1 xs z l0))) st := fun _ => rfl
  have L1b : ∀ st, lstW [.d (.tuple (xs.map PyData.int ++ [.str "1"]))] st = .ok (.d (.list [.tuple (xs.map PyData.int ++ [.str "1"])])) st := fun _ => rfl
  have L2 : ∀ st, lstW [.d .none, (.d (.int (0))), (.d (.int (81))), (.d (.int (-1))), .d (.bool true), .d (.str "5"), .d (.tuple [.int 5]), (.d (.int (100000000000000000000000000000)))] st = .ok (.d (.list odd2)) st := fun _ => rfl
  have ls1 : ∀ st, lstW [(.d (.int (s)))] st = .ok (.d (.list [.int s])) st := fun _ => rfl
  have L3 : ∀ st, lstW [.d .none, .d (.tuple []), (.d (.int (s))), .d (.list [.int s]), .d (.tuple (List.replicate 7 (.int s))), .d (.str "spans"), .d (.tuple [.tuple [.int s]])] st = .ok (.d (.list (odd3 s))) st := fun _ => rfl
  have lab : ∀ st, lstW [(.d (.int (a))), (.d (.int (b)))] st = .ok (.d (.list [.int a, .int b])) st := fun _ => rfl
  have L4 : ∀ st, lstW [.d .none, (.d (.int (a))), .d (.tuple [.int a]), .d (.tuple [.int a, .int b, .int 9]), .d (.list [.int a, .int b]), .d (.tuple [.int (-1), .int b]), .d (.tuple [.int 0, .int 10]), .d (.tuple [.int (b + 1), .int b]), .d (.tuple [.bool true, .int 9])] st = .ok (.d (.list (odd4 a b))) st := fun _ => rfl
  have L4b : ∀ st, lstW [.d (.tuple [.int 0, .none])] st = .ok (.d (.list [PyData.tuple [.int 0, .none]])) st := fun _ => rfl
  have T0 : ∀ st, tupW [] st = .ok (.d (.tuple [])) st := fun _ => rfl
  have T1 : ∀ (x : PyData) st, tupW [.d x] st = .ok (.d (.tuple [x])) st := fun _ _ => rfl
  have T2 : ∀ (x y : PyData) st, tupW [.d x, .d y] st = .ok (.d (.tuple [x, y])) st := fun _ _ _ => rfl
  have T3 : ∀ (x y w : PyData) st, tupW [.d x, .d y, .d w] st = .ok (.d (.tuple [x, y, w])) st := fun _ _ _ _ => rfl
  have p1 := for_same (g := gN 9) (b := d_law_l1) (env := [some sc, some (.d (.int (c))), some (.r st.length), some (.d (.tuple ((xs ++ [z]).map .int))), some (.d (.tuple [.int a, .int b])), some (.d (.int (s))), some (.d (.tuple ((xs).map .int))), some (.d (.int (z))), some (.d (.list (odd1 xs z l0))), none, none, none, none]) (st := st3) (odd1 xs z l0 ++ [PyData.tuple (xs.map PyData.int ++ [.str "1"])]) fun x hx => ⟨_, rfl, t1 _ _ _ _ _ _ _ _ _ (odd1_bad xs z l0 x hx) _ _ _ _⟩
  have p2 := for_same (g := gN 9) (b := d_law_l2) (env := [some sc, some (.d (.int (c))), some (.r st.length), some (.d (.tuple ((xs ++ [z]).map .int))), some (.d (.tuple [.int a, .int b])), some (.d (.int (s))), some (.d (.tuple ((xs).map .int))), some (.d (.int (z))), some (.d (.list (odd1 xs z l0))), none, none, none, none]) (st := st3) odd2 fun x hx => ⟨_, rfl, t2 _ _ _ _ _ _ _ _ _ L (odd2_bad x hx) _ hs _⟩
  have p3 := for_same (g := gN 9) (b := d_law_l3) (env := [some sc, some (.d (.int (c))), some (.r st.length), some (.d (.tuple ((xs ++ [z]).map .int))), some (.d (.tuple [.int a, .int b])), some (.d (.int (s))), some (.d (.tuple ((xs).map .int))), some (.d (.int (z))), some (.d (.list (odd1 xs z l0))), none, none, none, none]) (st := st3) (odd3 s) fun x hx => ⟨_, rfl, t3 _ _ _ _ _ _ _ _ _ L (odd3_bad s x hx) _ _ _⟩
  have p4 := for_same (g := gN 9) (b := d_law_l4) (env := [some sc, some (.d (.int (c))), some (.r st.length), some (.d (.tuple ((xs ++ [z]).map .int))), some (.d (.tuple [.int a, .int b])), some (.d (.int (s))), some (.d (.tuple ((xs).map .int))), some (.d (.int (z))), some (.d (.list (odd4 a b))), none, some (.d (.int (a))), some (.d (.int (b))), none]) (st := st3) (odd4 a b ++ [PyData.tuple [.int 0, .none]]) fun x hx => ⟨_, rfl, t4 _ _ _ _ _ _ _ _ _ L (odd4_bad a b x hx) _ hs _⟩
  have z1 : (odd1 xs z l0 ++ [PyData.tuple (xs.map PyData.int ++ [.str "1"])]).length ≤ 1000000 := by rw [List.length_append, lo1]; show 9 + 1 ≤ 1000000; decide
  have z2 : odd2.length ≤ 1000000 := by decide
  have z3 : (odd3 s).length ≤ 1000000 := by show 7 ≤ 1000000; decide
  have z4 : (odd4 a b ++ [PyData.tuple [.int 0, .none]]).length ≤ 1000000 := by rw [List.length_append, lo4]; show 9 + 1 ≤ 1000000; decide
  obtain ⟨m, hm⟩ : ∃ m, (xs ++ [z]).length = m + 1 := ⟨xs.length, by simp⟩
  have rr : fitB (xs ++ [z]) s a b = true → s - (xs ++ [z]).sum = (((s - (xs ++ [z]).sum).toNat : Nat) : Int) := fun h => by
    unfold fitB at h
    simp only [Bool.and_eq_true, decide_eq_true_eq] at h
    have : 0 ≤ (((xs ++ [z]).length : Int) - 1) * a := Int.mul_nonneg (by omega) J.1
    omega
  have es := fun st => r_spread L hm hs J rr st
  have ef := fun st => r_fits L hs J st
  have nt : (fitB (xs ++ [z]) s a b = isNone (if fitB (xs ++ [z]) s a b = true then PyData.tuple (stL (xs ++ [z]) (fI (s - (xs ++ [z]).sum).toNat m) m) else .none)) = False := by cases fitB (xs ++ [z]) s a b <;> simp [isNone]
  generalize (if fitB (xs ++ [z]) s a b = true then PyData.tuple (stL (xs ++ [z]) (fI (s - (xs ++ [z]).sum).toNat m) m) else .none) = TD at *
  generalize fitB (xs ++ [z]) s a b = FB at *
  refine ⟨st3, ?_⟩
  generalize odd1 xs z l0 ++ [PyData.tuple (xs.map PyData.int ++ [.str "1"])] = O1b at *
  generalize odd1 xs z l0 = O1 at *
  generalize odd2 = O2 at *
  generalize odd3 s = O3 at *
  generalize odd4 a b ++ [PyData.tuple [.int 0, .none]] = O4b at *
  generalize odd4 a b = O4 at *
  clear L c1 c2 c3 hb hm h0 rr
  generalize PyData.list ((xs ++ [z]).map PyData.int) = LL at *
  generalize PyData.tuple ((xs ++ [z]).map PyData.int) = PL at *
  generalize PyData.tuple (List.replicate 13 (.int 1)) = R13 at *
  generalize PyData.tuple (List.replicate 7 (.int s)) = R7 at *
  unfold d_law_l5
  simp -implicitDefEqProofs [e1, e2, e3, e4, sl, il, i0, lf, m13, m7, ad, al, al4, L1, L1b, L2, L3, ls1, lab, L4, L4b, T0, T1, T2, T3, srcW_dl, z1, z2, z3, z4, p1, p2, p3, p4, es, ef, nt, wipeE, -forL_cons, -o_mul_t, -o_add_t, -o_add_l, -o_sl_t]
theorem law_ok (ns : List Int) (h : ns.length ≤ 63) : ∃ st, m_law [.d (.list (ns.map .int))] [] = .ok (.d (.bool true)) st :=
  outer_w (n := 11) (K := 2) (body := d_law_l5) (fun sc c st => cell sc c st) ns h
end
theorem all_mk {P : Program} {w : World} {K : Frg} {h : Heap} {mg : Str → Option Value} {fa : Addr} (X : K.In h) (G : h.Ns mainGlobals mg) (hfa : mg "law" = some (.ref fa)) {ts : List Addr}
    {f_0 : Addr} {od_0 an_0 : Option Addr} {sl_0 : Array (Option Value)} {oc_0 kV_0 dc_0 pm_0 cd_0 ct_0 : Value}
    {f_1 : Addr} {od_1 an_1 : Option Addr} {sl_1 : Array (Option Value)} {oc_1 kV_1 dc_1 pm_1 cd_1 ct_1 : Value}
    {f_2 : Addr} {od_2 an_2 : Option Addr} {sl_2 : Array (Option Value)} {oc_2 kV_2 dc_2 pm_2 cd_2 ct_2 : Value}
    {f_3 : Addr} {od_3 an_3 : Option Addr} {sl_3 : Array (Option Value)} {oc_3 kV_3 dc_3 pm_3 cd_3 ct_3 : Value}
    {f_4 : Addr} {od_4 an_4 : Option Addr} {sl_4 : Array (Option Value)} {oc_4 kV_4 dc_4 pm_4 cd_4 ct_4 : Value}
    {f_5 : Addr} {od_5 an_5 : Option Addr} {sl_5 : Array (Option Value)} {oc_5 kV_5 dc_5 pm_5 cd_5 ct_5 : Value}
    {f_6 : Addr} {od_6 an_6 : Option Addr} {sl_6 : Array (Option Value)} {oc_6 kV_6 dc_6 pm_6 cd_6 ct_6 : Value}
    {f_7 : Addr} {od_7 an_7 : Option Addr} {sl_7 : Array (Option Value)} {oc_7 kV_7 dc_7 pm_7 cd_7 ct_7 : Value}
    {f_8 : Addr} {od_8 an_8 : Option Addr} {sl_8 : Array (Option Value)} {oc_8 kV_8 dc_8 pm_8 cd_8 ct_8 : Value}
    {f_9 : Addr} {od_9 an_9 : Option Addr} {sl_9 : Array (Option Value)} {oc_9 kV_9 dc_9 pm_9 cd_9 ct_9 : Value}
    {f_10 : Addr} {od_10 an_10 : Option Addr} {sl_10 : Array (Option Value)} {oc_10 kV_10 dc_10 pm_10 cd_10 ct_10 : Value}
    {f_11 : Addr} {od_11 an_11 : Option Addr} {sl_11 : Array (Option Value)} {oc_11 kV_11 dc_11 pm_11 cd_11 ct_11 : Value}
    {f_12 : Addr} {od_12 an_12 : Option Addr} {sl_12 : Array (Option Value)} {oc_12 kV_12 dc_12 pm_12 cd_12 ct_12 : Value}
    {f_13 : Addr} {od_13 an_13 : Option Addr} {sl_13 : Array (Option Value)} {oc_13 kV_13 dc_13 pm_13 cd_13 ct_13 : Value}
    {f_14 : Addr} {od_14 an_14 : Option Addr} {sl_14 : Array (Option Value)} {oc_14 kV_14 dc_14 pm_14 cd_14 ct_14 : Value}
    {f_15 : Addr} {od_15 an_15 : Option Addr} {sl_15 : Array (Option Value)} {oc_15 kV_15 dc_15 pm_15 cd_15 ct_15 : Value}
    {f_16 : Addr} {od_16 an_16 : Option Addr} {sl_16 : Array (Option Value)} {oc_16 kV_16 dc_16 pm_16 cd_16 ct_16 : Value}
    {f_17 : Addr} {od_17 an_17 : Option Addr} {sl_17 : Array (Option Value)} {oc_17 kV_17 dc_17 pm_17 cd_17 ct_17 : Value}
    {f_18 : Addr} {od_18 an_18 : Option Addr} {sl_18 : Array (Option Value)} {oc_18 kV_18 dc_18 pm_18 cd_18 ct_18 : Value}
    {f_19 : Addr} {od_19 an_19 : Option Addr} {sl_19 : Array (Option Value)} {oc_19 kV_19 dc_19 pm_19 cd_19 ct_19 : Value}
    {f_20 : Addr} {od_20 an_20 : Option Addr} {sl_20 : Array (Option Value)} {oc_20 kV_20 dc_20 pm_20 cd_20 ct_20 : Value}
    {f_21 : Addr} {od_21 an_21 : Option Addr} {sl_21 : Array (Option Value)} {oc_21 kV_21 dc_21 pm_21 cd_21 ct_21 : Value}
    {f_22 : Addr} {od_22 an_22 : Option Addr} {sl_22 : Array (Option Value)} {oc_22 kV_22 dc_22 pm_22 cd_22 ct_22 : Value}
    {f_23 : Addr} {od_23 an_23 : Option Addr} {sl_23 : Array (Option Value)} {oc_23 kV_23 dc_23 pm_23 cd_23 ct_23 : Value}
    {f_24 : Addr} {od_24 an_24 : Option Addr} {sl_24 : Array (Option Value)} {oc_24 kV_24 dc_24 pm_24 cd_24 ct_24 : Value}
    {f_25 : Addr} {od_25 an_25 : Option Addr} {sl_25 : Array (Option Value)} {oc_25 kV_25 dc_25 pm_25 cd_25 ct_25 : Value}
    {f_26 : Addr} {od_26 an_26 : Option Addr} {sl_26 : Array (Option Value)} {oc_26 kV_26 dc_26 pm_26 cd_26 ct_26 : Value}
    {f_27 : Addr} {od_27 an_27 : Option Addr} {sl_27 : Array (Option Value)} {oc_27 kV_27 dc_27 pm_27 cd_27 ct_27 : Value}
    {f_28 : Addr} {od_28 an_28 : Option Addr} {sl_28 : Array (Option Value)} {oc_28 kV_28 dc_28 pm_28 ct_28 : Value} {cc_28 TP_28 : Addr} {occ_28 : Value} {odd_28 : Option Addr} {vs_28 : Array Value} {slc_28 : Array (Option Value)}
    {f_29 : Addr} {od_29 an_29 : Option Addr} {sl_29 : Array (Option Value)} {oc_29 kV_29 dc_29 pm_29 cd_29 ct_29 : Value}
    {f_30 : Addr} {od_30 an_30 : Option Addr} {sl_30 : Array (Option Value)} {oc_30 kV_30 dc_30 pm_30 cd_30 ct_30 : Value}
    {f_31 : Addr} {od_31 an_31 : Option Addr} {sl_31 : Array (Option Value)} {oc_31 kV_31 dc_31 pm_31 cd_31 ct_31 : Value}
    {f_32 : Addr} {od_32 an_32 : Option Addr} {sl_32 : Array (Option Value)} {oc_32 kV_32 dc_32 pm_32 cd_32 ct_32 : Value}
    {f_33 : Addr} {od_33 an_33 : Option Addr} {sl_33 : Array (Option Value)} {oc_33 kV_33 dc_33 pm_33 cd_33 ct_33 : Value}
    {f_34 : Addr} {od_34 an_34 : Option Addr} {sl_34 : Array (Option Value)} {oc_34 kV_34 dc_34 pm_34 cd_34 ct_34 : Value}
    {f_35 : Addr} {od_35 an_35 : Option Addr} {sl_35 : Array (Option Value)} {oc_35 kV_35 dc_35 pm_35 cd_35 ct_35 : Value}
    {f_36 : Addr} {od_36 an_36 : Option Addr} {sl_36 : Array (Option Value)} {oc_36 kV_36 dc_36 pm_36 cd_36 ct_36 : Value}
    {f_37 : Addr} {od_37 an_37 : Option Addr} {sl_37 : Array (Option Value)} {oc_37 kV_37 dc_37 pm_37 cd_37 ct_37 : Value}
    {f_38 : Addr} {od_38 an_38 : Option Addr} {sl_38 : Array (Option Value)} {oc_38 kV_38 dc_38 pm_38 cd_38 ct_38 : Value}
    {f_39 : Addr} {od_39 an_39 : Option Addr} {sl_39 : Array (Option Value)} {oc_39 kV_39 dc_39 pm_39 ct_39 : Value} {cc_39 TP_39 : Addr} {occ_39 : Value} {odd_39 : Option Addr} {vs_39 : Array Value} {slc_39 : Array (Option Value)}
    {f_40 : Addr} {od_40 an_40 : Option Addr} {sl_40 : Array (Option Value)} {oc_40 kV_40 dc_40 pm_40 cd_40 ct_40 : Value}
    {t_MOST_JOINT : Tok}
    {t_MOST_SPAN : Tok}
    {t_MOST_SPANS : Tok}
    {t_MOST_STONE : Tok}
    {t_MOST_STONES : Tok}
    {C_StoneError : Addr}
    {C_NoJoints : Addr}
    {C_NoLongs : Addr}
    {C_NoNumber : Addr}
    {C_NoSpan : Addr}
    (a_0 : PySem.W.nsIn K mainGlobals "_law_pen_of" = some (some (.ref f_0)))
    (l_0 : K.lookup f_0 = some ⟨oc_0, od_0, .func (PySem.W.fnOf "_law_pen_of" "_law_pen_of" (defArgs s__law_pen_of) (defBody s__law_pen_of) (defScope s__law_pen_of) .none kV_0 dc_0 pm_0 an_0 cd_0 ct_0), sl_0⟩)
    (c_0 : PySem.W.codeIn K cd_0 "_law_pen_of" = true)
    (k_0 : PySem.W.keepIn K (.ref f_0) = true)
    (a_1 : PySem.W.nsIn K mainGlobals "_law_next" = some (some (.ref f_1)))
    (l_1 : K.lookup f_1 = some ⟨oc_1, od_1, .func (PySem.W.fnOf "_law_next" "_law_next" (defArgs s__law_next) (defBody s__law_next) (defScope s__law_next) .none kV_1 dc_1 pm_1 an_1 cd_1 ct_1), sl_1⟩)
    (c_1 : PySem.W.codeIn K cd_1 "_law_next" = true)
    (k_1 : PySem.W.keepIn K (.ref f_1) = true)
    (a_2 : PySem.W.nsIn K mainGlobals "_law_draw" = some (some (.ref f_2)))
    (l_2 : K.lookup f_2 = some ⟨oc_2, od_2, .func (PySem.W.fnOf "_law_draw" "_law_draw" (defArgs s__law_draw) (defBody s__law_draw) (defScope s__law_draw) .none kV_2 dc_2 pm_2 an_2 cd_2 ct_2), sl_2⟩)
    (c_2 : PySem.W.codeIn K cd_2 "_law_draw" = true)
    (k_2 : PySem.W.keepIn K (.ref f_2) = true)
    (a_3 : PySem.W.nsIn K mainGlobals "_law_span" = some (some (.ref f_3)))
    (l_3 : K.lookup f_3 = some ⟨oc_3, od_3, .func (PySem.W.fnOf "_law_span" "_law_span" (defArgs s__law_span) (defBody s__law_span) (defScope s__law_span) .none kV_3 dc_3 pm_3 an_3 cd_3 ct_3), sl_3⟩)
    (c_3 : PySem.W.codeIn K cd_3 "_law_span" = true)
    (k_3 : PySem.W.keepIn K (.ref f_3) = true)
    (a_4 : PySem.W.nsIn K mainGlobals "is_whole" = some (some (.ref f_4)))
    (l_4 : K.lookup f_4 = some ⟨oc_4, od_4, .func (PySem.W.fnOf "is_whole" "is_whole" (defArgs s_is_whole) (defBody s_is_whole) (defScope s_is_whole) .none kV_4 dc_4 pm_4 an_4 cd_4 ct_4), sl_4⟩)
    (c_4 : PySem.W.codeIn K cd_4 "is_whole" = true)
    (k_4 : PySem.W.keepIn K (.ref f_4) = true)
    (a_5 : PySem.W.nsIn K mainGlobals "is_from_to" = some (some (.ref f_5)))
    (l_5 : K.lookup f_5 = some ⟨oc_5, od_5, .func (PySem.W.fnOf "is_from_to" "is_from_to" (defArgs s_is_from_to) (defBody s_is_from_to) (defScope s_is_from_to) .none kV_5 dc_5 pm_5 an_5 cd_5 ct_5), sl_5⟩)
    (c_5 : PySem.W.codeIn K cd_5 "is_from_to" = true)
    (k_5 : PySem.W.keepIn K (.ref f_5) = true)
    (a_6 : PySem.W.nsIn K mainGlobals "are_longs" = some (some (.ref f_6)))
    (l_6 : K.lookup f_6 = some ⟨oc_6, od_6, .func (PySem.W.fnOf "are_longs" "are_longs" (defArgs s_are_longs) (defBody s_are_longs) (defScope s_are_longs) .none kV_6 dc_6 pm_6 an_6 cd_6 ct_6), sl_6⟩)
    (c_6 : PySem.W.codeIn K cd_6 "are_longs" = true)
    (k_6 : PySem.W.keepIn K (.ref f_6) = true)
    (a_7 : PySem.W.nsIn K mainGlobals "need_longs" = some (some (.ref f_7)))
    (l_7 : K.lookup f_7 = some ⟨oc_7, od_7, .func (PySem.W.fnOf "need_longs" "need_longs" (defArgs s_need_longs) (defBody s_need_longs) (defScope s_need_longs) .none kV_7 dc_7 pm_7 an_7 cd_7 ct_7), sl_7⟩)
    (c_7 : PySem.W.codeIn K cd_7 "need_longs" = true)
    (k_7 : PySem.W.keepIn K (.ref f_7) = true)
    (a_8 : PySem.W.nsIn K mainGlobals "is_span" = some (some (.ref f_8)))
    (l_8 : K.lookup f_8 = some ⟨oc_8, od_8, .func (PySem.W.fnOf "is_span" "is_span" (defArgs s_is_span) (defBody s_is_span) (defScope s_is_span) .none kV_8 dc_8 pm_8 an_8 cd_8 ct_8), sl_8⟩)
    (c_8 : PySem.W.codeIn K cd_8 "is_span" = true)
    (k_8 : PySem.W.keepIn K (.ref f_8) = true)
    (a_9 : PySem.W.nsIn K mainGlobals "need_span" = some (some (.ref f_9)))
    (l_9 : K.lookup f_9 = some ⟨oc_9, od_9, .func (PySem.W.fnOf "need_span" "need_span" (defArgs s_need_span) (defBody s_need_span) (defScope s_need_span) .none kV_9 dc_9 pm_9 an_9 cd_9 ct_9), sl_9⟩)
    (c_9 : PySem.W.codeIn K cd_9 "need_span" = true)
    (k_9 : PySem.W.keepIn K (.ref f_9) = true)
    (a_10 : PySem.W.nsIn K mainGlobals "are_joints" = some (some (.ref f_10)))
    (l_10 : K.lookup f_10 = some ⟨oc_10, od_10, .func (PySem.W.fnOf "are_joints" "are_joints" (defArgs s_are_joints) (defBody s_are_joints) (defScope s_are_joints) .none kV_10 dc_10 pm_10 an_10 cd_10 ct_10), sl_10⟩)
    (c_10 : PySem.W.codeIn K cd_10 "are_joints" = true)
    (k_10 : PySem.W.keepIn K (.ref f_10) = true)
    (a_11 : PySem.W.nsIn K mainGlobals "need_joints" = some (some (.ref f_11)))
    (l_11 : K.lookup f_11 = some ⟨oc_11, od_11, .func (PySem.W.fnOf "need_joints" "need_joints" (defArgs s_need_joints) (defBody s_need_joints) (defScope s_need_joints) .none kV_11 dc_11 pm_11 an_11 cd_11 ct_11), sl_11⟩)
    (c_11 : PySem.W.codeIn K cd_11 "need_joints" = true)
    (k_11 : PySem.W.keepIn K (.ref f_11) = true)
    (a_12 : PySem.W.nsIn K mainGlobals "need_all" = some (some (.ref f_12)))
    (l_12 : K.lookup f_12 = some ⟨oc_12, od_12, .func (PySem.W.fnOf "need_all" "need_all" (defArgs s_need_all) (defBody s_need_all) (defScope s_need_all) .none kV_12 dc_12 pm_12 an_12 cd_12 ct_12), sl_12⟩)
    (c_12 : PySem.W.codeIn K cd_12 "need_all" = true)
    (k_12 : PySem.W.keepIn K (.ref f_12) = true)
    (a_13 : PySem.W.nsIn K mainGlobals "rest_of" = some (some (.ref f_13)))
    (l_13 : K.lookup f_13 = some ⟨oc_13, od_13, .func (PySem.W.fnOf "rest_of" "rest_of" (defArgs s_rest_of) (defBody s_rest_of) (defScope s_rest_of) .none kV_13 dc_13 pm_13 an_13 cd_13 ct_13), sl_13⟩)
    (c_13 : PySem.W.codeIn K cd_13 "rest_of" = true)
    (k_13 : PySem.W.keepIn K (.ref f_13) = true)
    (a_14 : PySem.W.nsIn K mainGlobals "spread_by" = some (some (.ref f_14)))
    (l_14 : K.lookup f_14 = some ⟨oc_14, od_14, .func (PySem.W.fnOf "spread_by" "spread_by" (defArgs s_spread_by) (defBody s_spread_by) (defScope s_spread_by) .none kV_14 dc_14 pm_14 an_14 cd_14 ct_14), sl_14⟩)
    (c_14 : PySem.W.codeIn K cd_14 "spread_by" = true)
    (k_14 : PySem.W.keepIn K (.ref f_14) = true)
    (a_15 : PySem.W.nsIn K mainGlobals "fit" = some (some (.ref f_15)))
    (l_15 : K.lookup f_15 = some ⟨oc_15, od_15, .func (PySem.W.fnOf "fit" "fit" (defArgs s_fit) (defBody s_fit) (defScope s_fit) .none kV_15 dc_15 pm_15 an_15 cd_15 ct_15), sl_15⟩)
    (c_15 : PySem.W.codeIn K cd_15 "fit" = true)
    (k_15 : PySem.W.keepIn K (.ref f_15) = true)
    (a_16 : PySem.W.nsIn K mainGlobals "spread" = some (some (.ref f_16)))
    (l_16 : K.lookup f_16 = some ⟨oc_16, od_16, .func (PySem.W.fnOf "spread" "spread" (defArgs s_spread) (defBody s_spread) (defScope s_spread) .none kV_16 dc_16 pm_16 an_16 cd_16 ct_16), sl_16⟩)
    (c_16 : PySem.W.codeIn K cd_16 "spread" = true)
    (k_16 : PySem.W.keepIn K (.ref f_16) = true)
    (a_17 : PySem.W.nsIn K mainGlobals "_law_cell_at" = some (some (.ref f_17)))
    (l_17 : K.lookup f_17 = some ⟨oc_17, od_17, .func (PySem.W.fnOf "_law_cell_at" "_law_cell_at" (defArgs s__law_cell_at) (defBody s__law_cell_at) (defScope s__law_cell_at) .none kV_17 dc_17 pm_17 an_17 cd_17 ct_17), sl_17⟩)
    (c_17 : PySem.W.codeIn K cd_17 "_law_cell_at" = true)
    (k_17 : PySem.W.keepIn K (.ref f_17) = true)
    (a_18 : PySem.W.nsIn K mainGlobals "_law_longs" = some (some (.ref f_18)))
    (l_18 : K.lookup f_18 = some ⟨oc_18, od_18, .func (PySem.W.fnOf "_law_longs" "_law_longs" (defArgs s__law_longs) (defBody s__law_longs) (defScope s__law_longs) .none kV_18 dc_18 pm_18 an_18 cd_18 ct_18), sl_18⟩)
    (c_18 : PySem.W.codeIn K cd_18 "_law_longs" = true)
    (k_18 : PySem.W.keepIn K (.ref f_18) = true)
    (a_19 : PySem.W.nsIn K mainGlobals "_law_joints" = some (some (.ref f_19)))
    (l_19 : K.lookup f_19 = some ⟨oc_19, od_19, .func (PySem.W.fnOf "_law_joints" "_law_joints" (defArgs s__law_joints) (defBody s__law_joints) (defScope s__law_joints) .none kV_19 dc_19 pm_19 an_19 cd_19 ct_19), sl_19⟩)
    (c_19 : PySem.W.codeIn K cd_19 "_law_joints" = true)
    (k_19 : PySem.W.keepIn K (.ref f_19) = true)
    (a_20 : PySem.W.nsIn K mainGlobals "_law_flags" = some (some (.ref f_20)))
    (l_20 : K.lookup f_20 = some ⟨oc_20, od_20, .func (PySem.W.fnOf "_law_flags" "_law_flags" (defArgs s__law_flags) (defBody s__law_flags) (defScope s__law_flags) .none kV_20 dc_20 pm_20 an_20 cd_20 ct_20), sl_20⟩)
    (c_20 : PySem.W.codeIn K cd_20 "_law_flags" = true)
    (k_20 : PySem.W.keepIn K (.ref f_20) = true)
    (a_21 : PySem.W.nsIn K mainGlobals "_law_word" = some (some (.ref f_21)))
    (l_21 : K.lookup f_21 = some ⟨oc_21, od_21, .func (PySem.W.fnOf "_law_word" "_law_word" (defArgs s__law_word) (defBody s__law_word) (defScope s__law_word) .none kV_21 dc_21 pm_21 an_21 cd_21 ct_21), sl_21⟩)
    (c_21 : PySem.W.codeIn K cd_21 "_law_word" = true)
    (k_21 : PySem.W.keepIn K (.ref f_21) = true)
    (a_22 : PySem.W.nsIn K mainGlobals "_law_words" = some (some (.ref f_22)))
    (l_22 : K.lookup f_22 = some ⟨oc_22, od_22, .func (PySem.W.fnOf "_law_words" "_law_words" (defArgs s__law_words) (defBody s__law_words) (defScope s__law_words) .none kV_22 dc_22 pm_22 an_22 cd_22 ct_22), sl_22⟩)
    (c_22 : PySem.W.codeIn K cd_22 "_law_words" = true)
    (k_22 : PySem.W.keepIn K (.ref f_22) = true)
    (a_23 : PySem.W.nsIn K mainGlobals "fits" = some (some (.ref f_23)))
    (l_23 : K.lookup f_23 = some ⟨oc_23, od_23, .func (PySem.W.fnOf "fits" "fits" (defArgs s_fits) (defBody s_fits) (defScope s_fits) .none kV_23 dc_23 pm_23 an_23 cd_23 ct_23), sl_23⟩)
    (c_23 : PySem.W.codeIn K cd_23 "fits" = true)
    (k_23 : PySem.W.keepIn K (.ref f_23) = true)
    (a_24 : PySem.W.nsIn K mainGlobals "is_laying" = some (some (.ref f_24)))
    (l_24 : K.lookup f_24 = some ⟨oc_24, od_24, .func (PySem.W.fnOf "is_laying" "is_laying" (defArgs s_is_laying) (defBody s_is_laying) (defScope s_is_laying) .none kV_24 dc_24 pm_24 an_24 cd_24 ct_24), sl_24⟩)
    (c_24 : PySem.W.codeIn K cd_24 "is_laying" = true)
    (k_24 : PySem.W.keepIn K (.ref f_24) = true)
    (a_25 : PySem.W.nsIn K mainGlobals "layings_many" = some (some (.ref f_25)))
    (l_25 : K.lookup f_25 = some ⟨oc_25, od_25, .func (PySem.W.fnOf "layings_many" "layings_many" (defArgs s_layings_many) (defBody s_layings_many) (defScope s_layings_many) .none kV_25 dc_25 pm_25 an_25 cd_25 ct_25), sl_25⟩)
    (c_25 : PySem.W.codeIn K cd_25 "layings_many" = true)
    (k_25 : PySem.W.keepIn K (.ref f_25) = true)
    (a_26 : PySem.W.nsIn K mainGlobals "tight" = some (some (.ref f_26)))
    (l_26 : K.lookup f_26 = some ⟨oc_26, od_26, .func (PySem.W.fnOf "tight" "tight" (defArgs s_tight) (defBody s_tight) (defScope s_tight) .none kV_26 dc_26 pm_26 an_26 cd_26 ct_26), sl_26⟩)
    (c_26 : PySem.W.codeIn K cd_26 "tight" = true)
    (k_26 : PySem.W.keepIn K (.ref f_26) = true)
    (a_27 : PySem.W.nsIn K mainGlobals "cut_to" = some (some (.ref f_27)))
    (l_27 : K.lookup f_27 = some ⟨oc_27, od_27, .func (PySem.W.fnOf "cut_to" "cut_to" (defArgs s_cut_to) (defBody s_cut_to) (defScope s_cut_to) .none kV_27 dc_27 pm_27 an_27 cd_27 ct_27), sl_27⟩)
    (c_27 : PySem.W.codeIn K cd_27 "cut_to" = true)
    (k_27 : PySem.W.keepIn K (.ref f_27) = true)
    (a_28 : PySem.W.nsIn K mainGlobals "_law_calls" = some (some (.ref f_28)))
    (l_28 : K.lookup f_28 = some ⟨oc_28, od_28, .func (PySem.W.fnOf "_law_calls" "_law_calls" (defArgs s__law_calls) (defBody s__law_calls) (defScope s__law_calls) .none kV_28 dc_28 pm_28 an_28 (.ref cc_28) ct_28), sl_28⟩)
    (c_28 : PySem.W.codeIn K (.ref cc_28) "_law_calls" = true)
    (k_28 : PySem.W.keepIn K (.ref f_28) = true)
    (lu_28 : K.lookup cc_28 = some ⟨occ_28, odd_28, .fields vs_28, slc_28⟩)
    (lp_28 : (vs_28[11]? : Option Value) = some (.ref TP_28))
    (lt_28 : PySem.W.tabIn K "_law_calls" = some (cc_28, TP_28))
    (lk_28 : K.lookup TP_28 = none)
    (lh_28 : PySem.W.codeHdIn K cc_28 TP_28 = true)
    (lm_28 : TP_28 ∈ ts)
    (a_29 : PySem.W.nsIn K mainGlobals "need_spans" = some (some (.ref f_29)))
    (l_29 : K.lookup f_29 = some ⟨oc_29, od_29, .func (PySem.W.fnOf "need_spans" "need_spans" (defArgs s_need_spans) (defBody s_need_spans) (defScope s_need_spans) .none kV_29 dc_29 pm_29 an_29 cd_29 ct_29), sl_29⟩)
    (c_29 : PySem.W.codeIn K cd_29 "need_spans" = true)
    (k_29 : PySem.W.keepIn K (.ref f_29) = true)
    (a_30 : PySem.W.nsIn K mainGlobals "need_some" = some (some (.ref f_30)))
    (l_30 : K.lookup f_30 = some ⟨oc_30, od_30, .func (PySem.W.fnOf "need_some" "need_some" (defArgs s_need_some) (defBody s_need_some) (defScope s_need_some) .none kV_30 dc_30 pm_30 an_30 cd_30 ct_30), sl_30⟩)
    (c_30 : PySem.W.codeIn K cd_30 "need_some" = true)
    (k_30 : PySem.W.keepIn K (.ref f_30) = true)
    (a_31 : PySem.W.nsIn K mainGlobals "parting" = some (some (.ref f_31)))
    (l_31 : K.lookup f_31 = some ⟨oc_31, od_31, .func (PySem.W.fnOf "parting" "parting" (defArgs s_parting) (defBody s_parting) (defScope s_parting) .none kV_31 dc_31 pm_31 an_31 cd_31 ct_31), sl_31⟩)
    (c_31 : PySem.W.codeIn K cd_31 "parting" = true)
    (k_31 : PySem.W.keepIn K (.ref f_31) = true)
    (a_32 : PySem.W.nsIn K mainGlobals "fewest_cuts" = some (some (.ref f_32)))
    (l_32 : K.lookup f_32 = some ⟨oc_32, od_32, .func (PySem.W.fnOf "fewest_cuts" "fewest_cuts" (defArgs s_fewest_cuts) (defBody s_fewest_cuts) (defScope s_fewest_cuts) .none kV_32 dc_32 pm_32 an_32 cd_32 ct_32), sl_32⟩)
    (c_32 : PySem.W.codeIn K cd_32 "fewest_cuts" = true)
    (k_32 : PySem.W.keepIn K (.ref f_32) = true)
    (a_33 : PySem.W.nsIn K mainGlobals "levels" = some (some (.ref f_33)))
    (l_33 : K.lookup f_33 = some ⟨oc_33, od_33, .func (PySem.W.fnOf "levels" "levels" (defArgs s_levels) (defBody s_levels) (defScope s_levels) .none kV_33 dc_33 pm_33 an_33 cd_33 ct_33), sl_33⟩)
    (c_33 : PySem.W.codeIn K cd_33 "levels" = true)
    (k_33 : PySem.W.keepIn K (.ref f_33) = true)
    (a_34 : PySem.W.nsIn K mainGlobals "stuck" = some (some (.ref f_34)))
    (l_34 : K.lookup f_34 = some ⟨oc_34, od_34, .func (PySem.W.fnOf "stuck" "stuck" (defArgs s_stuck) (defBody s_stuck) (defScope s_stuck) .none kV_34 dc_34 pm_34 an_34 cd_34 ct_34), sl_34⟩)
    (c_34 : PySem.W.codeIn K cd_34 "stuck" = true)
    (k_34 : PySem.W.keepIn K (.ref f_34) = true)
    (a_35 : PySem.W.nsIn K mainGlobals "levels_hold" = some (some (.ref f_35)))
    (l_35 : K.lookup f_35 = some ⟨oc_35, od_35, .func (PySem.W.fnOf "levels_hold" "levels_hold" (defArgs s_levels_hold) (defBody s_levels_hold) (defScope s_levels_hold) .none kV_35 dc_35 pm_35 an_35 cd_35 ct_35), sl_35⟩)
    (c_35 : PySem.W.codeIn K cd_35 "levels_hold" = true)
    (k_35 : PySem.W.keepIn K (.ref f_35) = true)
    (a_36 : PySem.W.nsIn K mainGlobals "need_bound" = some (some (.ref f_36)))
    (l_36 : K.lookup f_36 = some ⟨oc_36, od_36, .func (PySem.W.fnOf "need_bound" "need_bound" (defArgs s_need_bound) (defBody s_need_bound) (defScope s_need_bound) .none kV_36 dc_36 pm_36 an_36 cd_36 ct_36), sl_36⟩)
    (c_36 : PySem.W.codeIn K cd_36 "need_bound" = true)
    (k_36 : PySem.W.keepIn K (.ref f_36) = true)
    (a_37 : PySem.W.nsIn K mainGlobals "cut_marks" = some (some (.ref f_37)))
    (l_37 : K.lookup f_37 = some ⟨oc_37, od_37, .func (PySem.W.fnOf "cut_marks" "cut_marks" (defArgs s_cut_marks) (defBody s_cut_marks) (defScope s_cut_marks) .none kV_37 dc_37 pm_37 an_37 cd_37 ct_37), sl_37⟩)
    (c_37 : PySem.W.codeIn K cd_37 "cut_marks" = true)
    (k_37 : PySem.W.keepIn K (.ref f_37) = true)
    (a_38 : PySem.W.nsIn K mainGlobals "marks_hold" = some (some (.ref f_38)))
    (l_38 : K.lookup f_38 = some ⟨oc_38, od_38, .func (PySem.W.fnOf "marks_hold" "marks_hold" (defArgs s_marks_hold) (defBody s_marks_hold) (defScope s_marks_hold) .none kV_38 dc_38 pm_38 an_38 cd_38 ct_38), sl_38⟩)
    (c_38 : PySem.W.codeIn K cd_38 "marks_hold" = true)
    (k_38 : PySem.W.keepIn K (.ref f_38) = true)
    (a_39 : PySem.W.nsIn K mainGlobals "_law_more" = some (some (.ref f_39)))
    (l_39 : K.lookup f_39 = some ⟨oc_39, od_39, .func (PySem.W.fnOf "_law_more" "_law_more" (defArgs s__law_more) (defBody s__law_more) (defScope s__law_more) .none kV_39 dc_39 pm_39 an_39 (.ref cc_39) ct_39), sl_39⟩)
    (c_39 : PySem.W.codeIn K (.ref cc_39) "_law_more" = true)
    (k_39 : PySem.W.keepIn K (.ref f_39) = true)
    (lu_39 : K.lookup cc_39 = some ⟨occ_39, odd_39, .fields vs_39, slc_39⟩)
    (lp_39 : (vs_39[11]? : Option Value) = some (.ref TP_39))
    (lt_39 : PySem.W.tabIn K "_law_more" = some (cc_39, TP_39))
    (lk_39 : K.lookup TP_39 = none)
    (lh_39 : PySem.W.codeHdIn K cc_39 TP_39 = true)
    (lm_39 : TP_39 ∈ ts)
    (a_40 : PySem.W.nsIn K mainGlobals "law" = some (some (.ref f_40)))
    (l_40 : K.lookup f_40 = some ⟨oc_40, od_40, .func (PySem.W.fnOf "law" "law" (defArgs s_law) (defBody s_law) (defScope s_law) .none kV_40 dc_40 pm_40 an_40 cd_40 ct_40), sl_40⟩)
    (c_40 : PySem.W.codeIn K cd_40 "law" = true)
    (k_40 : PySem.W.keepIn K (.ref f_40) = true)
    (ln_28_39 : TP_28 ≠ TP_39)
    (z_ArithmeticError : PySem.W.nsIn K mainGlobals "ArithmeticError" = some none)
    (z_LookupError : PySem.W.nsIn K mainGlobals "LookupError" = some none)
    (z_RuntimeError : PySem.W.nsIn K mainGlobals "RuntimeError" = some none)
    (z_TypeError : PySem.W.nsIn K mainGlobals "TypeError" = some none)
    (z_ValueError : PySem.W.nsIn K mainGlobals "ValueError" = some none)
    (z_all : PySem.W.nsIn K mainGlobals "all" = some none)
    (z_bool : PySem.W.nsIn K mainGlobals "bool" = some none)
    (z_int : PySem.W.nsIn K mainGlobals "int" = some none)
    (z_isinstance : PySem.W.nsIn K mainGlobals "isinstance" = some none)
    (z_len : PySem.W.nsIn K mainGlobals "len" = some none)
    (z_list : PySem.W.nsIn K mainGlobals "list" = some none)
    (z_max : PySem.W.nsIn K mainGlobals "max" = some none)
    (z_min : PySem.W.nsIn K mainGlobals "min" = some none)
    (z_range : PySem.W.nsIn K mainGlobals "range" = some none)
    (z_sum : PySem.W.nsIn K mainGlobals "sum" = some none)
    (z_tuple : PySem.W.nsIn K mainGlobals "tuple" = some none)
    (a_MOST_JOINT : PySem.W.nsIn K mainGlobals "MOST_JOINT" = some (some (.int 9 t_MOST_JOINT)))
    (a_MOST_SPAN : PySem.W.nsIn K mainGlobals "MOST_SPAN" = some (some (.int 80 t_MOST_SPAN)))
    (a_MOST_SPANS : PySem.W.nsIn K mainGlobals "MOST_SPANS" = some (some (.int 6 t_MOST_SPANS)))
    (a_MOST_STONE : PySem.W.nsIn K mainGlobals "MOST_STONE" = some (some (.int 20 t_MOST_STONE)))
    (a_MOST_STONES : PySem.W.nsIn K mainGlobals "MOST_STONES" = some (some (.int 12 t_MOST_STONES)))
    (a_StoneError : PySem.W.nsIn K mainGlobals "StoneError" = some (some (.ref C_StoneError)))
    (a_NoJoints : PySem.W.nsIn K mainGlobals "NoJoints" = some (some (.ref C_NoJoints)))
    (x_NoJoints : PySem.W.excIn K C_NoJoints bmV "ValueError.__new__" = true)
    (b_NoJoints : xcB K "StoneError" ysX fldX "NoJoints" C_NoJoints = true)
    (a_NoLongs : PySem.W.nsIn K mainGlobals "NoLongs" = some (some (.ref C_NoLongs)))
    (x_NoLongs : PySem.W.excIn K C_NoLongs bmV "ValueError.__new__" = true)
    (b_NoLongs : xcB K "StoneError" ysX fldX "NoLongs" C_NoLongs = true)
    (a_NoNumber : PySem.W.nsIn K mainGlobals "NoNumber" = some (some (.ref C_NoNumber)))
    (x_NoNumber : PySem.W.excIn K C_NoNumber bmV "ValueError.__new__" = true)
    (b_NoNumber : xcB K "StoneError" ysX fldX "NoNumber" C_NoNumber = true)
    (a_NoSpan : PySem.W.nsIn K mainGlobals "NoSpan" = some (some (.ref C_NoSpan)))
    (x_NoSpan : PySem.W.excIn K C_NoSpan bmV "ValueError.__new__" = true)
    (b_NoSpan : xcB K "StoneError" ysX fldX "NoSpan" C_NoSpan = true) :
    ∃ (fd : FuncData) (TT : Tbl) (cs : List (Addr × Addr)), (∀ p ∈ TT.T, ∃ c, (c, p.1) ∈ cs) ∧ (∀ p ∈ cs, p.2 ∈ ts ∧ K.lookup p.2 = none ∧ PySem.W.codeHdIn K p.1 p.2 = true) ∧ (∀ (s : Shared) (v : Value), BindsTo s fd ⟨[v], []⟩ [("_law_script", v)]) ∧ ∀ base : Heap, K.In base → base.Ns mainGlobals mg → SysM base → (∀ p ∈ cs, LamX.TabB base mg p.1 p.2) → @Fnk _ TT ⟨P, w, K, mg, base⟩ false 11 fa fd ["_law_script"] m_law := by
  have e := hfa.symm.trans (PySem.W.mg_of X G a_40)
  cases e
  refine ⟨PySem.W.fnOf "law" "law" (defArgs s_law) (defBody s_law) (defScope s_law) .none kV_40 dc_40 pm_40 an_40 cd_40 ct_40, ⟨[(TP_28, "_law_calls.<locals>.<lambda>"), (TP_39, "_law_more.<locals>.<lambda>")]⟩, [(cc_28, TP_28), (cc_39, TP_39)], ?_, ?_, fun s v => .of_eq rfl, fun base _ _ SMb TB => ?_⟩
  · intro p hp; simp only [List.mem_cons, List.not_mem_nil, or_false] at hp; rcases hp with rfl | rfl
    · exact ⟨cc_28, by simp⟩
    · exact ⟨cc_39, by simp⟩
  · intro p hp; simp only [List.mem_cons, List.not_mem_nil, or_false] at hp; rcases hp with rfl | rfl
    · exact ⟨lm_28, lk_28, lh_28⟩
    · exact ⟨lm_39, lk_39, lh_39⟩
  letI : Tbl := ⟨[(TP_28, "_law_calls.<locals>.<lambda>"), (TP_39, "_law_more.<locals>.<lambda>")]⟩
  have T : Hs ⟨P, w, K, mg, base⟩ := ⟨PySem.W.mg_none_of X G z_ArithmeticError,
    PySem.W.mg_none_of X G z_LookupError,
    PySem.W.mg_none_of X G z_RuntimeError,
    PySem.W.mg_none_of X G z_TypeError,
    PySem.W.mg_none_of X G z_ValueError,
    PySem.W.mg_none_of X G z_all,
    PySem.W.mg_none_of X G z_bool,
    PySem.W.mg_none_of X G z_int,
    PySem.W.mg_none_of X G z_isinstance,
    PySem.W.mg_none_of X G z_len,
    PySem.W.mg_none_of X G z_list,
    PySem.W.mg_none_of X G z_max,
    PySem.W.mg_none_of X G z_min,
    PySem.W.mg_none_of X G z_range,
    PySem.W.mg_none_of X G z_sum,
    PySem.W.mg_none_of X G z_tuple,
    gw_of X G a_MOST_JOINT wr_int,
    gw_of X G a_MOST_SPAN wr_int,
    gw_of X G a_MOST_SPANS wr_int,
    gw_of X G a_MOST_STONE wr_int,
    gw_of X G a_MOST_STONES wr_int,
    ⟨_, PySem.W.mg_of X G a_StoneError⟩,
    ⟨_, xcA_of X G a_NoJoints (fun _ => x_NoJoints) b_NoJoints⟩,
    ⟨_, xcA_of X G a_NoLongs (fun _ => x_NoLongs) b_NoLongs⟩,
    ⟨_, xcA_of X G a_NoNumber (fun _ => x_NoNumber) b_NoNumber⟩,
    ⟨_, xcA_of X G a_NoSpan (fun _ => x_NoSpan) b_NoSpan⟩⟩
  have LT__law_calls : LamT ⟨P, w, K, mg, base⟩ "_law_calls" "_law_calls.<locals>.<lambda>" := lamT_of X G lt_28 (by decide) (by show _ ∈ ([(TP_28, "_law_calls.<locals>.<lambda>"), (TP_39, "_law_more.<locals>.<lambda>")] : List (Addr × Str)); simp) (by
    intro p hp e; have hp : p ∈ ([(TP_28, "_law_calls.<locals>.<lambda>"), (TP_39, "_law_more.<locals>.<lambda>")] : List (Addr × Str)) := hp; simp only [List.mem_cons, List.not_mem_nil, or_false] at hp; rcases hp with rfl | rfl
    · rfl
    · exact absurd e.symm ln_28_39
    ) (TB (cc_28, TP_28) (by simp))
  have LT__law_more : LamT ⟨P, w, K, mg, base⟩ "_law_more" "_law_more.<locals>.<lambda>" := lamT_of X G lt_39 (by decide) (by show _ ∈ ([(TP_28, "_law_calls.<locals>.<lambda>"), (TP_39, "_law_more.<locals>.<lambda>")] : List (Addr × Str)); simp) (by
    intro p hp e; have hp : p ∈ ([(TP_28, "_law_calls.<locals>.<lambda>"), (TP_39, "_law_more.<locals>.<lambda>")] : List (Addr × Str)) := hp; simp only [List.mem_cons, List.not_mem_nil, or_false] at hp; rcases hp with rfl | rfl
    · exact absurd e ln_28_39
    · rfl
    ) (TB (cc_39, TP_39) (by simp))
  have h__law_pen_of := h__law_pen_of T  (top_mk (M := ⟨P, w, K, mg, base⟩) X G a_0 l_0 c_0 k_0 (fun us hl => match us, hl with | [_], _ => rfl))
  have h__law_next := h__law_next T  (top_mk (M := ⟨P, w, K, mg, base⟩) X G a_1 l_1 c_1 k_1 (fun us hl => match us, hl with | [_], _ => rfl))
  have h__law_draw := h__law_draw T h__law_next (top_mk (M := ⟨P, w, K, mg, base⟩) X G a_2 l_2 c_2 k_2 (fun us hl => match us, hl with | [_, _], _ => rfl))
  have h__law_span := h__law_span T h__law_draw (top_mk (M := ⟨P, w, K, mg, base⟩) X G a_3 l_3 c_3 k_3 (fun us hl => match us, hl with | [_, _, _], _ => rfl))
  have h_is_whole := h_is_whole T  (top_mk (M := ⟨P, w, K, mg, base⟩) X G a_4 l_4 c_4 k_4 (fun us hl => match us, hl with | [_], _ => rfl))
  have h_is_from_to := h_is_from_to T h_is_whole (top_mk (M := ⟨P, w, K, mg, base⟩) X G a_5 l_5 c_5 k_5 (fun us hl => match us, hl with | [_, _, _], _ => rfl))
  have h_are_longs := h_are_longs T h_is_from_to (top_mk (M := ⟨P, w, K, mg, base⟩) X G a_6 l_6 c_6 k_6 (fun us hl => match us, hl with | [_], _ => rfl))
  have h_need_longs := h_need_longs T h_are_longs (top_mk (M := ⟨P, w, K, mg, base⟩) X G a_7 l_7 c_7 k_7 (fun us hl => match us, hl with | [_], _ => rfl))
  have h_is_span := h_is_span T h_is_from_to (top_mk (M := ⟨P, w, K, mg, base⟩) X G a_8 l_8 c_8 k_8 (fun us hl => match us, hl with | [_], _ => rfl))
  have h_need_span := h_need_span T h_is_span (top_mk (M := ⟨P, w, K, mg, base⟩) X G a_9 l_9 c_9 k_9 (fun us hl => match us, hl with | [_], _ => rfl))
  have h_are_joints := h_are_joints T h_is_from_to (top_mk (M := ⟨P, w, K, mg, base⟩) X G a_10 l_10 c_10 k_10 (fun us hl => match us, hl with | [_], _ => rfl))
  have h_need_joints := h_need_joints T h_are_joints (top_mk (M := ⟨P, w, K, mg, base⟩) X G a_11 l_11 c_11 k_11 (fun us hl => match us, hl with | [_], _ => rfl))
  have h_need_all := h_need_all T h_need_joints h_need_longs h_need_span (top_mk (M := ⟨P, w, K, mg, base⟩) X G a_12 l_12 c_12 k_12 (fun us hl => match us, hl with | [_, _, _], _ => rfl))
  have h_rest_of := h_rest_of T  (top_mk (M := ⟨P, w, K, mg, base⟩) X G a_13 l_13 c_13 k_13 (fun us hl => match us, hl with | [_, _], _ => rfl))
  have h_spread_by := h_spread_by T h_rest_of (top_mk (M := ⟨P, w, K, mg, base⟩) X G a_14 l_14 c_14 k_14 (fun us hl => match us, hl with | [_, _], _ => rfl))
  have h_fit := h_fit T h_rest_of (top_mk (M := ⟨P, w, K, mg, base⟩) X G a_15 l_15 c_15 k_15 (fun us hl => match us, hl with | [_, _, _], _ => rfl))
  have h_spread := h_spread T h_fit h_need_all h_spread_by (top_mk (M := ⟨P, w, K, mg, base⟩) X G a_16 l_16 c_16 k_16 (fun us hl => match us, hl with | [_, _, _], _ => rfl))
  have h__law_cell_at := h__law_cell_at T  (top_mk (M := ⟨P, w, K, mg, base⟩) X G a_17 l_17 c_17 k_17 (fun us hl => match us, hl with | [_, _], _ => rfl))
  have h__law_longs := h__law_longs T h__law_draw (top_mk (M := ⟨P, w, K, mg, base⟩) X G a_18 l_18 c_18 k_18 (fun us hl => match us, hl with | [_, _], _ => rfl))
  have h__law_joints := h__law_joints T h__law_draw (top_mk (M := ⟨P, w, K, mg, base⟩) X G a_19 l_19 c_19 k_19 (fun us hl => match us, hl with | [_], _ => rfl))
  have h__law_flags := h__law_flags T  (top_mk (M := ⟨P, w, K, mg, base⟩) X G a_20 l_20 c_20 k_20 (fun us hl => match us, hl with | [_], _ => rfl))
  have S__law_word := h__law_word T h__law_flags (top_mk (M := ⟨P, w, K, mg, base⟩) X G a_21 l_21 c_21 k_21 (fun us hl => match us, hl with | [_], _ => rfl))
  have h__law_words := h__law_words T S__law_word (top_mk (M := ⟨P, w, K, mg, base⟩) X G a_22 l_22 c_22 k_22 (fun us hl => match us, hl with | [_], _ => rfl))
  have h_fits := h_fits T h_fit h_need_all (top_mk (M := ⟨P, w, K, mg, base⟩) X G a_23 l_23 c_23 k_23 (fun us hl => match us, hl with | [_, _, _], _ => rfl))
  have h_is_laying := h_is_laying T h_need_all (top_mk (M := ⟨P, w, K, mg, base⟩) X G a_24 l_24 c_24 k_24 (fun us hl => match us, hl with | [_, _, _, _], _ => rfl))
  have h_layings_many := h_layings_many T h_need_all (top_mk (M := ⟨P, w, K, mg, base⟩) X G a_25 l_25 c_25 k_25 (fun us hl => match us, hl with | [_, _, _], _ => rfl))
  have h_tight := h_tight T h_need_all (top_mk (M := ⟨P, w, K, mg, base⟩) X G a_26 l_26 c_26 k_26 (fun us hl => match us, hl with | [_, _, _], _ => rfl))
  have h_cut_to := h_cut_to T h_need_all (top_mk (M := ⟨P, w, K, mg, base⟩) X G a_27 l_27 c_27 k_27 (fun us hl => match us, hl with | [_, _, _], _ => rfl))
  have h__law_calls := h__law_calls T h_cut_to h_fits h_is_laying h_layings_many h_spread h_tight LT__law_calls (top_mk (M := ⟨P, w, K, mg, base⟩) X G a_28 l_28 c_28 k_28 (fun us hl => match us, hl with | [_, _, _], _ => rfl))
  have h_need_spans := h_need_spans T h_is_span (top_mk (M := ⟨P, w, K, mg, base⟩) X G a_29 l_29 c_29 k_29 (fun us hl => match us, hl with | [_], _ => rfl))
  have h_need_some := h_need_some T h_need_joints h_need_longs h_need_spans (top_mk (M := ⟨P, w, K, mg, base⟩) X G a_30 l_30 c_30 k_30 (fun us hl => match us, hl with | [_, _, _], _ => rfl))
  have h_parting := h_parting T h_need_some (top_mk (M := ⟨P, w, K, mg, base⟩) X G a_31 l_31 c_31 k_31 (fun us hl => match us, hl with | [_, _, _], _ => rfl))
  have h_fewest_cuts := h_fewest_cuts T h_need_some (top_mk (M := ⟨P, w, K, mg, base⟩) X G a_32 l_32 c_32 k_32 (fun us hl => match us, hl with | [_, _, _], _ => rfl))
  have h_levels := h_levels T h_need_some (top_mk (M := ⟨P, w, K, mg, base⟩) X G a_33 l_33 c_33 k_33 (fun us hl => match us, hl with | [_, _, _], _ => rfl))
  have h_stuck := h_stuck T h_need_some (top_mk (M := ⟨P, w, K, mg, base⟩) X G a_34 l_34 c_34 k_34 (fun us hl => match us, hl with | [_, _, _], _ => rfl))
  have h_levels_hold := h_levels_hold T h_need_some (top_mk (M := ⟨P, w, K, mg, base⟩) X G a_35 l_35 c_35 k_35 (fun us hl => match us, hl with | [_, _, _, _], _ => rfl))
  have h_need_bound := h_need_bound T h_is_whole h_need_some (top_mk (M := ⟨P, w, K, mg, base⟩) X G a_36 l_36 c_36 k_36 (fun us hl => match us, hl with | [_, _, _, _], _ => rfl))
  have h_cut_marks := h_cut_marks T h_need_bound (top_mk (M := ⟨P, w, K, mg, base⟩) X G a_37 l_37 c_37 k_37 (fun us hl => match us, hl with | [_, _, _, _], _ => rfl))
  have h_marks_hold := h_marks_hold T h_need_bound (top_mk (M := ⟨P, w, K, mg, base⟩) X G a_38 l_38 c_38 k_38 (fun us hl => match us, hl with | [_, _, _, _, _], _ => rfl))
  have h__law_more := h__law_more T h_cut_marks h_fewest_cuts h_levels h_levels_hold h_marks_hold h_parting h_stuck LT__law_more (top_mk (M := ⟨P, w, K, mg, base⟩) X G a_39 l_39 c_39 k_39 (fun us hl => match us, hl with | [_, _, _], _ => rfl))
  exact fnk_of l_40 c_40 sc_law t_law rfl rfl (fun X c => b_law T h__law_calls h__law_cell_at h__law_joints h__law_longs h__law_more h__law_pen_of h__law_span h__law_words h_fits h_spread c)
end PV
open PySem PySem.W PyProof.Rows
set_option maxRecDepth 100000 in
set_option maxHeartbeats 0 in
theorem PySem.Challenge.cw_bentstones_k27_refusals_of_fills_holds : PySem.Challenge.rw_bentstones_k27_refusals_of_fills.Holds := by
  w_on; o_law; k_head; (case hw => w_witness2)
  k_fill
  letI : PV.Tbl := ⟨[]⟩
  refine PV.walk_runT (g := false) (l := PySem.Challenge.rw_bentstones_k27_refusals_of_fills) (n := 63) (k := 11) (x := "_law_script") (mf := PV.m_law) (by rfl) rfl (by decide) rfl ⟨rfl, by decide, by decide⟩ (fun w h Y => PySem.W.km_in_of Y) (fun w h Y => PySem.W.km_tabs_of Y) ?F PV.law_ok
  case F =>
    intro w mg fa h KX G hmg
    refine' PV.all_mk KX G hmg ?a_0 ?l_0 ?c_0 ?k_0 ?a_1 ?l_1 ?c_1 ?k_1 ?a_2 ?l_2 ?c_2 ?k_2 ?a_3 ?l_3 ?c_3 ?k_3 ?a_4 ?l_4 ?c_4 ?k_4 ?a_5 ?l_5 ?c_5 ?k_5 ?a_6 ?l_6 ?c_6 ?k_6 ?a_7 ?l_7 ?c_7 ?k_7 ?a_8 ?l_8 ?c_8 ?k_8 ?a_9 ?l_9 ?c_9 ?k_9 ?a_10 ?l_10 ?c_10 ?k_10 ?a_11 ?l_11 ?c_11 ?k_11 ?a_12 ?l_12 ?c_12 ?k_12 ?a_13 ?l_13 ?c_13 ?k_13 ?a_14 ?l_14 ?c_14 ?k_14 ?a_15 ?l_15 ?c_15 ?k_15 ?a_16 ?l_16 ?c_16 ?k_16 ?a_17 ?l_17 ?c_17 ?k_17 ?a_18 ?l_18 ?c_18 ?k_18 ?a_19 ?l_19 ?c_19 ?k_19 ?a_20 ?l_20 ?c_20 ?k_20 ?a_21 ?l_21 ?c_21 ?k_21 ?a_22 ?l_22 ?c_22 ?k_22 ?a_23 ?l_23 ?c_23 ?k_23 ?a_24 ?l_24 ?c_24 ?k_24 ?a_25 ?l_25 ?c_25 ?k_25 ?a_26 ?l_26 ?c_26 ?k_26 ?a_27 ?l_27 ?c_27 ?k_27 ?a_28 ?l_28 ?c_28 ?k_28 ?lu_28 ?lp_28 ?lt_28 ?lk_28 ?lh_28 ?lm_28 ?a_29 ?l_29 ?c_29 ?k_29 ?a_30 ?l_30 ?c_30 ?k_30 ?a_31 ?l_31 ?c_31 ?k_31 ?a_32 ?l_32 ?c_32 ?k_32 ?a_33 ?l_33 ?c_33 ?k_33 ?a_34 ?l_34 ?c_34 ?k_34 ?a_35 ?l_35 ?c_35 ?k_35 ?a_36 ?l_36 ?c_36 ?k_36 ?a_37 ?l_37 ?c_37 ?k_37 ?a_38 ?l_38 ?c_38 ?k_38 ?a_39 ?l_39 ?c_39 ?k_39 ?lu_39 ?lp_39 ?lt_39 ?lk_39 ?lh_39 ?lm_39 ?a_40 ?l_40 ?c_40 ?k_40 ?ln_28_39 ?z_ArithmeticError ?z_LookupError ?z_RuntimeError ?z_TypeError ?z_ValueError ?z_all ?z_bool ?z_int ?z_isinstance ?z_len ?z_list ?z_max ?z_min ?z_range ?z_sum ?z_tuple ?a_MOST_JOINT ?a_MOST_SPAN ?a_MOST_SPANS ?a_MOST_STONE ?a_MOST_STONES ?a_StoneError ?a_NoJoints ?x_NoJoints ?b_NoJoints ?a_NoLongs ?x_NoLongs ?b_NoLongs ?a_NoNumber ?x_NoNumber ?b_NoNumber ?a_NoSpan ?x_NoSpan ?b_NoSpan
    (case a_0 => k_is); (case l_0 => k_is); (case c_0 => k_is); (case k_0 => k_is); (case a_1 => k_is); (case l_1 => k_is); (case c_1 => k_is); (case k_1 => k_is); (case a_2 => k_is); (case l_2 => k_is); (case c_2 => k_is); (case k_2 => k_is); (case a_3 => k_is); (case l_3 => k_is); (case c_3 => k_is); (case k_3 => k_is); (case a_4 => k_is); (case l_4 => k_is); (case c_4 => k_is); (case k_4 => k_is); (case a_5 => k_is); (case l_5 => k_is); (case c_5 => k_is); (case k_5 => k_is); (case a_6 => k_is); (case l_6 => k_is); (case c_6 => k_is); (case k_6 => k_is); (case a_7 => k_is); (case l_7 => k_is); (case c_7 => k_is); (case k_7 => k_is); (case a_8 => k_is); (case l_8 => k_is); (case c_8 => k_is); (case k_8 => k_is); (case a_9 => k_is); (case l_9 => k_is); (case c_9 => k_is); (case k_9 => k_is); (case a_10 => k_is); (case l_10 => k_is); (case c_10 => k_is); (case k_10 => k_is); (case a_11 => k_is); (case l_11 => k_is); (case c_11 => k_is); (case k_11 => k_is); (case a_12 => k_is); (case l_12 => k_is); (case c_12 => k_is); (case k_12 => k_is); (case a_13 => k_is); (case l_13 => k_is); (case c_13 => k_is); (case k_13 => k_is); (case a_14 => k_is); (case l_14 => k_is); (case c_14 => k_is); (case k_14 => k_is); (case a_15 => k_is); (case l_15 => k_is); (case c_15 => k_is); (case k_15 => k_is); (case a_16 => k_is); (case l_16 => k_is); (case c_16 => k_is); (case k_16 => k_is); (case a_17 => k_is); (case l_17 => k_is); (case c_17 => k_is); (case k_17 => k_is); (case a_18 => k_is); (case l_18 => k_is); (case c_18 => k_is); (case k_18 => k_is); (case a_19 => k_is); (case l_19 => k_is); (case c_19 => k_is); (case k_19 => k_is); (case a_20 => k_is); (case l_20 => k_is); (case c_20 => k_is); (case k_20 => k_is); (case a_21 => k_is); (case l_21 => k_is); (case c_21 => k_is); (case k_21 => k_is); (case a_22 => k_is); (case l_22 => k_is); (case c_22 => k_is); (case k_22 => k_is); (case a_23 => k_is); (case l_23 => k_is); (case c_23 => k_is); (case k_23 => k_is); (case a_24 => k_is); (case l_24 => k_is); (case c_24 => k_is); (case k_24 => k_is); (case a_25 => k_is); (case l_25 => k_is); (case c_25 => k_is); (case k_25 => k_is); (case a_26 => k_is); (case l_26 => k_is); (case c_26 => k_is); (case k_26 => k_is); (case a_27 => k_is); (case l_27 => k_is); (case c_27 => k_is); (case k_27 => k_is); (case a_28 => k_is); (case l_28 => k_is); (case c_28 => k_is); (case k_28 => k_is); (case lu_28 => k_is); (case lp_28 => exact rfl); (case lt_28 => kernel_rfl); (case lk_28 => kernel_rfl); (case lh_28 => kernel_rfl); (case lm_28 => k_mem); (case a_29 => k_is); (case l_29 => k_is); (case c_29 => k_is); (case k_29 => k_is); (case a_30 => k_is); (case l_30 => k_is); (case c_30 => k_is); (case k_30 => k_is); (case a_31 => k_is); (case l_31 => k_is); (case c_31 => k_is); (case k_31 => k_is); (case a_32 => k_is); (case l_32 => k_is); (case c_32 => k_is); (case k_32 => k_is); (case a_33 => k_is); (case l_33 => k_is); (case c_33 => k_is); (case k_33 => k_is); (case a_34 => k_is); (case l_34 => k_is); (case c_34 => k_is); (case k_34 => k_is); (case a_35 => k_is); (case l_35 => k_is); (case c_35 => k_is); (case k_35 => k_is); (case a_36 => k_is); (case l_36 => k_is); (case c_36 => k_is); (case k_36 => k_is); (case a_37 => k_is); (case l_37 => k_is); (case c_37 => k_is); (case k_37 => k_is); (case a_38 => k_is); (case l_38 => k_is); (case c_38 => k_is); (case k_38 => k_is); (case a_39 => k_is); (case l_39 => k_is); (case c_39 => k_is); (case k_39 => k_is); (case lu_39 => k_is); (case lp_39 => exact rfl); (case lt_39 => kernel_rfl); (case lk_39 => kernel_rfl); (case lh_39 => kernel_rfl); (case lm_39 => k_mem); (case a_40 => k_is); (case l_40 => k_is); (case c_40 => k_is); (case k_40 => k_is); (case ln_28_39 => decide); (case z_ArithmeticError => k_is); (case z_LookupError => k_is); (case z_RuntimeError => k_is); (case z_TypeError => k_is); (case z_ValueError => k_is); (case z_all => k_is); (case z_bool => k_is); (case z_int => k_is); (case z_isinstance => k_is); (case z_len => k_is); (case z_list => k_is); (case z_max => k_is); (case z_min => k_is); (case z_range => k_is); (case z_sum => k_is); (case z_tuple => k_is); (case a_MOST_JOINT => k_is); (case a_MOST_SPAN => k_is); (case a_MOST_SPANS => k_is); (case a_MOST_STONE => k_is); (case a_MOST_STONES => k_is); (case a_StoneError => k_is); (case a_NoJoints => k_is); (case x_NoJoints => kernel_rfl); (case b_NoJoints => kernel_rfl); (case a_NoLongs => k_is); (case x_NoLongs => kernel_rfl); (case b_NoLongs => kernel_rfl); (case a_NoNumber => k_is); (case x_NoNumber => kernel_rfl); (case b_NoNumber => kernel_rfl); (case a_NoSpan => k_is); (case x_NoSpan => kernel_rfl); (case b_NoSpan => kernel_rfl)
