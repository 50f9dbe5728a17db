import PyProof.Rows.All
import Wide.All
import OpenK.AllK
import Wide.FinOn
import HandS.ForMost
import HandS.Walk
import HandS.ExcOwn
import HandS.WordsExc
import HandS.Lambda
import HandS.HotCalls
import HandS.ExcField
import HandS.ExcIs
import HandS.ExcInit
import HandS.TryOnly
import KE.KExcIs
import KE.KIsAll
import HandS.EndTab
import HandS.TupLen
import HandS.DictTup
import KE.DataEq
import KE.DataFind
import KE.DataIsa
import KE.DataCmp
import KE.SortData
import HandS.Flow
import HandS.TupAny
import HandS.TupMul
import HandS.Style
import HandS.Wide
import HandS.Codes
import KE.DataAny
import KE.DataMinMax
import KE.DatumIndex
import HandS.Strs
import KE.KTupSum
import KE.GoesNew
import HandS.Small
import PyProof.FitsInt
import HandS.SortKw
import PyProof.TupleOfSeq
import HandS.Conv
import KE.DatumOrd
import HandS.More
import HandS.RaiseMore
import KE.KDictPairs
import HandS.Exc
import KE.SortKeyHeap
import KE.KItemsList
import HandS.WideBits
import PyProof.ExcBaseAll.ValueError
import PyProof.OldK
import PySem.Challenge.RW_bentstones_k41_rows_known
set_option Elab.async false
set_option autoImplicit false
set_option linter.all false
set_option maxRecDepth 100000
set_option maxHeartbeats 4000000
namespace PV
open PySem PySem.Spec PyProof.Rows L2
section
/-! ## results, values, the store -/
/-- the tuples that the module's top has written, with those within -/
class Wtp where
  W : List PyData
inductive Wv where
  | d (x : PyData)
  | r (i : Nat)
  /-- the exception that is handled -/
  | x (a : Addr) (c : Str) (d : Option (Addr × List (Str × PyData)))
inductive Ob where
  | lst (xs : List PyData)
  | dct (kvs : List (PyData × PyData))
  /-- a dict whose keys are tuples -/
  | dtt (kvs : List (PyData × PyData))
  /-- a dict that is pinned: nobody writes it any more -/
  | lkd (es : List (PyData × PyData))
  /-- a list that is pinned -/
  | lkl (xs : List PyData)
abbrev Sto := List Ob
abbrev En := List (Option Wv)
structure Xc where
  name : Str
  fs : List (Str × PyData)
inductive Rs (α : Type) where
  | ok (a : α) (st : Sto)
  | ex (e : Xc) (st : Sto)
  | no
namespace Rs
variable {α β : Type}
def bind (x : Rs α) (f : α → Sto → Rs β) : Rs β := match x with
  | .ok a st => f a st
  | .ex e st => .ex e st
  | .no => .no
/-- what holds at the end -/
def post (x : Rs α) (Q : α → Sto → Prop) (W : Xc → Sto → Prop) : Prop := match x with
  | .ok a st => Q a st
  | .ex e st => W e st
  | .no => False
@[simp] theorem bind_ok (a : α) (st : Sto) (f : α → Sto → Rs β) : (Rs.ok a st).bind f = f a st := rfl
@[simp] theorem bind_ex (e : Xc) (st : Sto) (f : α → Sto → Rs β) : (Rs.ex e st : Rs α).bind f = .ex e st := rfl
@[simp] theorem bind_no (f : α → Sto → Rs β) : (Rs.no : Rs α).bind f = .no := rfl
@[simp] theorem post_ok (a : α) (st : Sto) (Q : α → Sto → Prop) (W : Xc → Sto → Prop) : (Rs.ok a st).post Q W = Q a st := rfl
@[simp] theorem post_ex (e : Xc) (st : Sto) (Q : α → Sto → Prop) (W : Xc → Sto → Prop) : (Rs.ex e st : Rs α).post Q W = W e st := rfl
@[simp] theorem post_no (Q : α → Sto → Prop) (W : Xc → Sto → Prop) : (Rs.no : Rs α).post Q W = False := rfl
theorem post_bind (x : Rs α) (f : α → Sto → Rs β) (Q : β → Sto → Prop) (W : Xc → Sto → Prop) : (x.bind f).post Q W = x.post (fun a st => (f a st).post Q W) W := by cases x <;> rfl
theorem post_mono {x : Rs α} {Q Q' : α → Sto → Prop} {W W' : Xc → Sto → Prop} (h : x.post Q W) (hQ : ∀ a st, Q a st → Q' a st) (hW : ∀ e st, W e st → W' e st) : x.post Q' W' := by
  cases x with
  | ok a st => exact hQ a st h
  | ex e st => exact hW e st h
  | no => exact h
end Rs
/-- a value as data, as it is now -/
def look (st : Sto) : Wv → Option PyData
  | .d x => some x
  | .r i => match st[i]? with
    | some (.lst xs) => some (.list xs)
    | some (.dct kvs) => some (.dict kvs)
    | some (.dtt kvs) => some (.dict kvs)
    | some (.lkd kvs) => some (.dict kvs)
    | some (.lkl xs) => some (.list xs)
    | none => none
  | .x _ _ _ => none
@[simp] theorem look_d (st : Sto) (x : PyData) : look st (.d x) = some x := rfl
/-! ## data as it stands in the heap -/
abbrev Frg := PySem.W.Frag
def WrL (K : Frg) (a : Addr) (xs : List V) : Prop := ∃ (vs : Array Value) (k : Nat), K.lookup a = some { cls := .type "list", data := .seq vs k } ∧ vs.size ≤ sizeLine ∧ Vals xs vs.toList
def LsAt (K : Frg) (H : Hp) (Z : Addr → Prop) (a : Addr) (xs : List V) : Prop := (H a = some (.lst xs) ∧ Z a) ∨ (∃ o, H a = some (.frz o (.lst xs))) ∨ WrL K a xs
theorem LsAt.sq {K : Frg} {H : Hp} {Z : Addr → Prop} {a : Addr} {xs : List V} (h : LsAt K H Z a xs) : SqL K H a xs := by
  rcases h with ⟨h, _⟩ | ⟨o, h⟩ | h
  · exact .inl (.inl h)
  · exact .inl (.inr ⟨o, h⟩)
  · obtain ⟨vs, k, h1, h2, h3⟩ := h
    exact .inr ⟨_, vs, k, h1, rfl, rfl, rfl, h2, h3⟩
/-- a list, whoever holds it -/
abbrev LsX (K : Frg) (H : Hp) (a : Addr) (xs : List V) : Prop := LsAt K H (fun _ => True) a xs
theorem LsAt.x {K : Frg} {H : Hp} {Z : Addr → Prop} {a : Addr} {xs : List V} (h : LsAt K H Z a xs) : LsX K H a xs := by
  rcases h with ⟨h, _⟩ | h | h
  · exact .inl ⟨h, trivial⟩
  · exact .inr (.inl h)
  · exact .inr (.inr h)
theorem Inv.lsx {X : Cx} {pins : List (Addr × Obj)} {σ : L2.St} {H : Hp} {s : Shared} {Z : Addr → Prop} {a : Addr} {xs : List V} (I : Inv X pins σ H s) (h : LsAt X.K H Z a xs) :
    ∃ (its : List Value) (n : Nat), Vals xs its ∧ s.heap.get? a = some { cls := .type "list", data := .seq its.toArray n } ∧ xs.length ≤ sizeLine ∧ its.length = xs.length := by
  rcases h with ⟨h, _⟩ | ⟨o, h⟩ | ⟨vs, k, h1, h2, h3⟩
  · obtain ⟨z, its, n, r, e⟩ := I.hok a _ h
    exact ⟨its, n, r, e, z, r.length.symm⟩
  · obtain ⟨_, z, its, n, r, e⟩ := I.hok a _ h
    exact ⟨its, n, r, e, z, r.length.symm⟩
  · have e := h3.length
    exact ⟨vs.toList, k, h3, I.kIn a _ h1, by simp only [Array.length_toList] at e; omega, e.symm⟩
def keyD : PyData → Option Key
  | .int i => some (.inl i)
  | .str x => some (.inr x)
  | _ => none
def keysD : List PyData → Option (List Key)
  | [] => some []
  | d :: r => match keyD d, keysD r with
    | some k, some ks => some (k :: ks)
    | _, _ => none
def tkD : PyData → Option (List Key)
  | .tuple xs => keysD xs
  | _ => none
variable [Wtp]
/-- a tuple of its own, or one that the top has written -/
def TpAt (K : Frg) (H : Hp) (a : Addr) (xs : List V) (ds : List PyData) : Prop := H a = some (.tup xs) ∨ (SqT K H a xs ∧ PyData.tuple ds ∈ Wtp.W)
theorem TpAt.sq {K : Frg} {H : Hp} {a : Addr} {xs : List V} {ds : List PyData} (h : TpAt K H a xs ds) : SqT K H a xs := by
  rcases h with h | h
  · exact .inl (.inl h)
  · exact h.1
mutual
inductive Rp (K : Frg) (H : Hp) (Z : Addr → Prop) : V → PyData → Prop
  | non : Rp K H Z .non .none
  | bl (b : Bool) : Rp K H Z (.bl b) (.bool b)
  | int (i : Int) : Rp K H Z (.int i) (.int i)
  | str (x : Str) : Rp K H Z (.str x) (.str x)
  | lst {a : Addr} {xs : List V} {ds : List PyData} : LsAt K H Z a xs → RpA K H Z xs ds → Rp K H Z (.ref a) (.list ds)
  | tup {a : Addr} {xs : List V} {ds : List PyData} : TpAt K H a xs ds → RpA K H Z xs ds → Rp K H Z (.ref a) (.tuple ds)
  | dic {a : Addr} {o : Obj} {kvs : List (Key × V)} {es : List (PyData × PyData)} : H a = some (.frz o (.dK kvs)) → RpK K H Z kvs es → Rp K H Z (.ref a) (.dict es)
  | dit {a : Addr} {o : Obj} {kvs : List (List Key × V)} {es : List (PyData × PyData)} : H a = some (.frz o (.dT kvs)) → RpT K H Z kvs es → Rp K H Z (.ref a) (.dict es)
inductive RpA (K : Frg) (H : Hp) (Z : Addr → Prop) : List V → List PyData → Prop
  | nil : RpA K H Z [] []
  | cons {v : V} {vs : List V} {d : PyData} {ds : List PyData} : Rp K H Z v d → RpA K H Z vs ds → RpA K H Z (v :: vs) (d :: ds)
inductive RpK (K : Frg) (H : Hp) (Z : Addr → Prop) : List (Key × V) → List (PyData × PyData) → Prop
  | nil : RpK K H Z [] []
  | cons {k : Key} {v : V} {kvs : List (Key × V)} {c d : PyData} {es : List (PyData × PyData)} : keyD c = some k → Rp K H Z v d → RpK K H Z kvs es → RpK K H Z ((k, v) :: kvs) ((c, d) :: es)
inductive RpT (K : Frg) (H : Hp) (Z : Addr → Prop) : List (List Key × V) → List (PyData × PyData) → Prop
  | nil : RpT K H Z [] []
  | cons {k : List Key} {v : V} {kvs : List (List Key × V)} {c d : PyData} {es : List (PyData × PyData)} : tkD c = some k → Rp K H Z v d → RpT K H Z kvs es → RpT K H Z ((k, v) :: kvs) ((c, d) :: es)
end
/-- no table of code objects -/
def NT (o : HO) : Prop := ∀ ps, o ≠ .tbl ps
theorem nt_lst {xs : List V} : NT (.lst xs) := fun _ z => nomatch z
theorem nt_dK {xs : List (Key × V)} : NT (.dK xs) := fun _ z => nomatch z
theorem nt_dT {xs : List (List Key × V)} : NT (.dT xs) := fun _ z => nomatch z
/-- something stands there, and no table -/
def Nn (H : Hp) (a : Addr) : Prop := ∃ o, H a = some o ∧ NT o
theorem Nn.ne {H : Hp} {a : Addr} (h : Nn H a) : H a ≠ none := by obtain ⟨o, e, _⟩ := h; rw [e]; exact fun z => nomatch z
theorem nn_no {H : Hp} {a : Addr} (h : H a = none) : ¬ Nn H a := fun q => q.ne h
/-- a list -/
def LsO (o : HO) : Prop := ∃ xs, o = .lst xs
theorem LsO.nt {o : HO} (h : LsO o) : NT o := by obtain ⟨xs, rfl⟩ := h; exact nt_lst
/-- what data lean on is kept -/
structure Kp (K : Frg) (H : Hp) (Z : Addr → Prop) (H' : Hp) (Z' : Addr → Prop) : Prop where
  tup : ∀ a xs, H a = some (.tup xs) → H' a = some (.tup xs)
  frz : ∀ a o u, H a = some (.frz o u) → H' a = some (.frz o u)
  rest : ∀ a o, LsO o → H a = some o → Z a → H' a = some o ∧ Z' a
section
variable {K : Frg} {H H' H'' : Hp} {Z Z' Z'' : Addr → Prop}
theorem Kp.refl : Kp K H Z H Z := ⟨fun _ _ h => h, fun _ _ _ h => h, fun _ _ _ h z => ⟨h, z⟩⟩
theorem Kp.trans (p : Kp K H Z H' Z') (q : Kp K H' Z' H'' Z'') : Kp K H Z H'' Z'' :=
  ⟨fun a xs h => q.tup a xs (p.tup a xs h), fun a o u h => q.frz a o u (p.frz a o u h), fun a o nt h z => let ⟨h1, z1⟩ := p.rest a o nt h z; q.rest a o nt h1 z1⟩
theorem Kp.sqt (p : Kp K H Z H' Z') {a : Addr} {xs : List V} (h : SqT K H a xs) : SqT K H' a xs := by
  rcases h with (h | ⟨o, h⟩) | h
  · exact .inl (.inl (p.tup _ _ h))
  · exact .inl (.inr ⟨o, p.frz _ _ _ h⟩)
  · exact .inr h
theorem Kp.tp (p : Kp K H Z H' Z') {a : Addr} {xs : List V} {ds : List PyData} (h : TpAt K H a xs ds) : TpAt K H' a xs ds := by
  rcases h with h | h
  · exact .inl (p.tup _ _ h)
  · exact .inr ⟨p.sqt h.1, h.2⟩
theorem Kp.ls (p : Kp K H Z H' Z') {a : Addr} {xs : List V} (h : LsAt K H Z a xs) : LsAt K H' Z' a xs := by
  rcases h with ⟨h, z⟩ | ⟨o, h⟩ | h
  · exact .inl (p.rest _ _ ⟨_, rfl⟩ h z)
  · exact .inr (.inl ⟨o, p.frz _ _ _ h⟩)
  · exact .inr (.inr h)
mutual
theorem Rp.kp (p : Kp K H Z H' Z') : ∀ (d : PyData) (v : V), Rp K H Z v d → Rp K H' Z' v d
  | .none, _, h => by cases h; exact .non
  | .bool b, _, h => by cases h; exact .bl b
  | .int i, _, h => by cases h; exact .int i
  | .str x, _, h => by cases h; exact .str x
  | .list ds, _, h => by cases h with | lst h1 h2 => exact .lst (p.ls h1) (RpA.kp p ds _ h2)
  | .tuple ds, _, h => by cases h with | tup h1 h2 => exact .tup (p.tp h1) (RpA.kp p ds _ h2)
  | .dict es, _, h => by
    cases h with
    | dic h1 h3 => exact .dic (p.frz _ _ _ h1) (RpK.kp p es _ h3)
    | dit h1 h3 => exact .dit (p.frz _ _ _ h1) (RpT.kp p es _ h3)
theorem RpA.kp (p : Kp K H Z H' Z') : ∀ (ds : List PyData) (vs : List V), RpA K H Z vs ds → RpA K H' Z' vs ds
  | [], _, h => by cases h; exact .nil
  | d :: ds, _, h => by cases h with | cons h1 h2 => exact .cons (Rp.kp p d _ h1) (RpA.kp p ds _ h2)
theorem RpK.kp (p : Kp K H Z H' Z') : ∀ (es : List (PyData × PyData)) (kvs : List (Key × V)), RpK K H Z kvs es → RpK K H' Z' kvs es
  | [], _, h => by cases h; exact .nil
  | (c, d) :: es, _, h => by cases h with | cons h0 h1 h2 => exact .cons h0 (Rp.kp p d _ h1) (RpK.kp p es _ h2)
theorem RpT.kp (p : Kp K H Z H' Z') : ∀ (es : List (PyData × PyData)) (kvs : List (List Key × V)), RpT K H Z kvs es → RpT K H' Z' kvs es
  | [], _, h => by cases h; exact .nil
  | (c, d) :: es, _, h => by cases h with | cons h0 h1 h2 => exact .cons h0 (Rp.kp p d _ h1) (RpT.kp p es _ h2)
end
theorem Rp.mv {v : V} {d : PyData} (h : Rp K H Z v d) (p : Kp K H Z H' Z') : Rp K H' Z' v d := Rp.kp p d v h
theorem RpA.mv {vs : List V} {ds : List PyData} (h : RpA K H Z vs ds) (p : Kp K H Z H' Z') : RpA K H' Z' vs ds := RpA.kp p ds vs h
theorem RpA.len : ∀ {vs : List V} {ds : List PyData}, RpA K H Z vs ds → vs.length = ds.length
  | [], [], _ => rfl
  | _ :: vs, _ :: ds, h => by cases h with | cons _ h => simp [RpA.len h]
  | [], _ :: _, h => by cases h
  | _ :: _, [], h => by cases h
theorem RpA.get : ∀ {vs : List V} {ds : List PyData} {i : Nat} {d : PyData}, RpA K H Z vs ds → ds[i]? = some d → ∃ v, vs[i]? = some v ∧ Rp K H Z v d
  | [], [], i, d, _, e => by simp at e
  | v :: vs, c :: ds, 0, d, h, e => by
    cases h with
    | cons h1 h2 =>
      simp at e
      subst e
      exact ⟨v, rfl, h1⟩
  | v :: vs, c :: ds, i + 1, d, h, e => by
    cases h with
    | cons h1 h2 =>
      obtain ⟨u, hu, r⟩ := RpA.get (i := i) h2 (by simpa using e)
      exact ⟨u, by simpa using hu, r⟩
  | [], _ :: _, _, _, h, _ => by cases h
  | _ :: _, [], _, _, h, _ => by cases h
theorem RpA.app : ∀ {vs ws : List V} {ds es : List PyData}, RpA K H Z vs ds → RpA K H Z ws es → RpA K H Z (vs ++ ws) (ds ++ es)
  | [], _, [], _, _, h => h
  | _ :: _, _, _ :: _, _, .cons h1 h2, h => .cons h1 (RpA.app h2 h)
theorem RpA.drop : ∀ {vs : List V} {ds : List PyData} (n : Nat), RpA K H Z vs ds → RpA K H Z (vs.drop n) (ds.drop n)
  | _, _, 0, h => h
  | [], [], _ + 1, h => h
  | _ :: _, _ :: _, n + 1, .cons _ h => RpA.drop n h
theorem RpA.take : ∀ {vs : List V} {ds : List PyData} (n : Nat), RpA K H Z vs ds → RpA K H Z (vs.take n) (ds.take n)
  | _, _, 0, _ => .nil
  | [], [], _ + 1, _ => .nil
  | _ :: _, _ :: _, n + 1, .cons h1 h => .cons h1 (RpA.take n h)
theorem RpA.set {v : V} {d : PyData} (r : Rp K H Z v d) : ∀ {vs : List V} {ds : List PyData} (n : Nat), RpA K H Z vs ds → RpA K H Z (vs.set n v) (ds.set n d)
  | [], [], _, h => h
  | _ :: _, _ :: _, 0, .cons _ h => .cons r h
  | _ :: _, _ :: _, n + 1, .cons h1 h => .cons h1 (RpA.set r n h)
theorem RpA.rev : ∀ {vs : List V} {ds : List PyData}, RpA K H Z vs ds → RpA K H Z vs.reverse ds.reverse
  | [], [], h => h
  | _ :: _, _ :: _, .cons h1 h => by
    rw [List.reverse_cons, List.reverse_cons]
    exact (RpA.rev h).app (.cons h1 .nil)
end
/-! ## the real heap reads as the data -/
section
variable {X : Cx} {pins : List (Addr × Obj)} {σ : L2.St} {H : Hp} {s : Shared} {Z : Addr → Prop}
/-- the dict of the modules stands in its place -/
def SysM (h : Heap) : Prop := ∃ (o : Obj) (es : Array DictEntry) (ep : Nat), h.get? sysModules = some o ∧ o.data = .dict es ep
/-- no list, no tuple stands there -/
theorem SysM.seq {h : Heap} {a : Addr} {o : Obj} {vs : Array Value} {n : Nat} (S : SysM h) (e : h.get? a = some o) (d : o.data = .seq vs n) : sysModules ≠ a := fun z => by
  obtain ⟨o', es, ep, e', d'⟩ := S
  rw [z, e] at e'
  cases e'
  rw [d] at d'
  cases d'
theorem SysM.up {h h' : Heap} (S : SysM h) (k : ∀ b o, h.get? b = some o → h'.get? b = some o) : SysM h' := by
  obtain ⟨o, es, ep, e, d⟩ := S
  exact ⟨o, es, ep, k _ _ e, d⟩
theorem off_cons {a : Addr} {as : List Addr} (h : sysModules ≠ a) (h' : sysModules ∉ as) : sysModules ∉ a :: as := fun z => by
  rcases List.mem_cons.mp z with z | z
  · exact h z
  · exact h' z
theorem off_app {as bs : List Addr} (h : sysModules ∉ as) (h' : sysModules ∉ bs) : sysModules ∉ as ++ bs := fun z => by
  rcases List.mem_append.mp z with z | z
  · exact h z
  · exact h' z
theorem off_nil : sysModules ∉ ([] : List Addr) := List.not_mem_nil
theorem keyD_rel {h : Heap} {d : PyData} {k : Key} {u : Value} (e : keyD d = some k) (r : RelV (kV k) u) : Reads h u d [] := by
  cases d with
  | int i => cases e; obtain ⟨t, rfl⟩ := r; exact .int i t
  | str x => cases e; obtain ⟨t, rfl⟩ := r; exact .str x t
  | _ => cases e
theorem keysD_reads {h : Heap} : ∀ {ds : List PyData} {ks : List Key} {us : List Value}, keysD ds = some ks → Vals (ks.map kV) us → ReadsAll h us ds []
  | [], ks, us, e, r => by
    cases e
    cases r
    exact .nil
  | d :: ds, ks, us, e, r => by
    unfold keysD at e
    split at e
    · rename_i k ks' e1 e2
      cases e
      cases r with
      | cons r1 r2 => exact .cons (as := []) (bs := []) (keyD_rel (h := h) e1 r1) (keysD_reads (h := h) e2 r2)
    · cases e
theorem tkD_reads (I : Inv X pins σ H s) {c : PyData} {k : List Key} {b : Addr} (e : tkD c = some k) (hb : H b = some (.tup (k.map kV))) : ∃ as, Reads s.heap (.ref b) c as ∧ (SysM s.heap → sysModules ∉ as) := by
  cases c with
  | tuple ds =>
    obtain ⟨its, rv, ⟨o, ho, hc, n, hd⟩, _⟩ := I.tuple (.inl (.inl hb))
    exact ⟨_, .tuple ho hc hd (keysD_reads (h := s.heap) (show keysD ds = some k from e) rv), fun _ => off_nil⟩
  | _ => cases e
theorem keyD_reads {h : Heap} {c : PyData} {k : Key} {u : Value} (e : keyD c = some k) (hk : keyIs k u = true) : Reads h u c [] := by
  cases c with
  | int i =>
    cases e
    rcases keyIs_shape hk with ⟨j, t, e1, rfl⟩ | ⟨x, t, e1, rfl⟩
    · cases e1; exact .int _ _
    · cases e1
  | str x =>
    cases e
    rcases keyIs_shape hk with ⟨j, t, e1, rfl⟩ | ⟨x, t, e1, rfl⟩
    · cases e1
    · cases e1; exact .str _ _
  | _ => cases e
mutual
/-- what is read lies beside the modules' dict -/
theorem Rp.readsM (I : Inv X pins σ H s) : ∀ (d : PyData) (v : V) (u : Value), Rp X.K H Z v d → RelV v u → ∃ as, Reads s.heap u d as ∧ (SysM s.heap → sysModules ∉ as)
  | .none, _, _, h, r => by cases h; cases r; exact ⟨_, .none, fun _ => off_nil⟩
  | .bool b, _, _, h, r => by cases h; cases r; exact ⟨_, .bool b, fun _ => off_nil⟩
  | .int i, _, _, h, r => by cases h; obtain ⟨t, rfl⟩ := r; exact ⟨_, .int i t, fun _ => off_nil⟩
  | .str x, _, _, h, r => by cases h; obtain ⟨t, rfl⟩ := r; exact ⟨_, .str x t, fun _ => off_nil⟩
  | .list ds, _, _, h, r => by
    cases h with
    | lst hs ha =>
      cases r
      obtain ⟨its, rv, ⟨o, n, ho, hc, _, hd⟩, _⟩ := I.list hs.sq
      obtain ⟨as, hr, g⟩ := RpA.readsM I ds _ its ha rv
      exact ⟨_, .list ho hc hd hr, fun S => off_cons (S.seq ho hd) (g S)⟩
  | .tuple ds, _, _, h, r => by
    cases h with
    | tup hs ha =>
      cases r
      obtain ⟨its, rv, ⟨o, ho, hc, n, hd⟩, _⟩ := I.tuple hs.sq
      obtain ⟨as, hr, g⟩ := RpA.readsM I ds _ its ha rv
      exact ⟨_, .tuple ho hc hd hr, g⟩
  | .dict es, _, _, h, r => by
    cases h with
    | dic h1 h3 =>
      cases r
      obtain ⟨_, _, hm, vs, kv, o, ents, ep, ho, hc, hd, _, he, _⟩ := (show ObjOk X.prog X.w H s.heap _ (.frz _ (.dK _)) from I.hok _ _ h1)
      obtain ⟨as, bs, r1, r2, g1, g2⟩ := RpK.readsM I es _ vs ents.toList h3 kv he
      exact ⟨_, .dict ho hc.1 hd r1 r2, fun S => off_app (off_cons (fun z => by subst z; cases hm) (g1 S)) (g2 S)⟩
    | dit h1 h3 =>
      cases r
      obtain ⟨_, _, hm, xs, kt, o, ents, ep, ho, hc, hd, he, _⟩ := (show ObjOk X.prog X.w H s.heap _ (.frz _ (.dT _)) from I.hok _ _ h1)
      obtain ⟨as, bs, r1, r2, g1, g2⟩ := RpT.readsM I es _ xs h3 kt
      rw [← he] at r1 r2
      exact ⟨_, .dict ho hc.1 hd r1 r2, fun S => off_app (off_cons (fun z => by subst z; cases hm) (g1 S)) (g2 S)⟩
theorem RpA.readsM (I : Inv X pins σ H s) : ∀ (ds : List PyData) (vs : List V) (us : List Value), RpA X.K H Z vs ds → Vals vs us → ∃ as, ReadsAll s.heap us ds as ∧ (SysM s.heap → sysModules ∉ as)
  | [], _, _, h, r => by cases h; cases r; exact ⟨_, .nil, fun _ => off_nil⟩
  | d :: ds, _, _, h, r => by
    cases h with
    | cons h1 h2 =>
      cases r with
      | cons r1 r2 =>
        obtain ⟨as, q1, g1⟩ := Rp.readsM I d _ _ h1 r1
        obtain ⟨bs, q2, g2⟩ := RpA.readsM I ds _ _ h2 r2
        exact ⟨_, .cons q1 q2, fun S => off_app (g1 S) (g2 S)⟩
theorem RpK.readsM (I : Inv X pins σ H s) : ∀ (es : List (PyData × PyData)) (kvs : List (Key × V)) (vs : List (Key × Value)) (ents : List DictEntry), RpK X.K H Z kvs es → KV kvs vs →
    Pairs (mixKind X.prog X.w) ents vs → ∃ as bs, ReadsAll s.heap (ents.map (·.key)) (es.map (·.1)) as ∧ ReadsAll s.heap (ents.map (·.val)) (es.map (·.2)) bs ∧ (SysM s.heap → sysModules ∉ as) ∧ (SysM s.heap → sysModules ∉ bs)
  | [], _, _, _, h, r, p => by cases h; cases r; cases p; exact ⟨_, _, .nil, .nil, fun _ => off_nil, fun _ => off_nil⟩
  | (c, d) :: es, _, _, _, h, r, p => by
    cases h with
    | cons h0 h1 h2 =>
      cases r with
      | cons r1 r2 =>
        cases p with
        | cons p1 p2 p3 =>
          obtain ⟨as, bs, q1, q2, g1, g2⟩ := RpK.readsM I es _ _ _ h2 r2 p3
          obtain ⟨cs, q3, g3⟩ := Rp.readsM I d _ _ h1 r1.2
          have q4 := keyD_reads (h := s.heap) (c := c) (h0.trans (congrArg some r1.1)) p1
          exact ⟨_, _, .cons q4 q1, by rw [List.map_cons, List.map_cons, p2]; exact .cons q3 q2, fun S => off_app off_nil (g1 S), fun S => off_app (g3 S) (g2 S)⟩
theorem RpT.readsM (I : Inv X pins σ H s) : ∀ (es : List (PyData × PyData)) (kvs : List (List Key × V)) (xs : List (List Key × Addr × Value)), RpT X.K H Z kvs es → KT H kvs xs →
    ∃ as bs, ReadsAll s.heap ((xs.map (entryOfKey (tupleKind (mixKind X.prog X.w)))).map (·.key)) (es.map (·.1)) as ∧ ReadsAll s.heap ((xs.map (entryOfKey (tupleKind (mixKind X.prog X.w)))).map (·.val)) (es.map (·.2)) bs ∧ (SysM s.heap → sysModules ∉ as) ∧ (SysM s.heap → sysModules ∉ bs)
  | [], _, _, h, r => by cases h; cases r; exact ⟨_, _, .nil, .nil, fun _ => off_nil, fun _ => off_nil⟩
  | (c, d) :: es, _, _, h, r => by
    cases h with
    | cons h0 h1 h2 =>
      cases r with
      | cons r1 r2 =>
        obtain ⟨as, bs, q1, q2, g1, g2⟩ := RpT.readsM I es _ _ h2 r2
        obtain ⟨cs, q3, g3⟩ := Rp.readsM I d _ _ h1 r1.2.2
        obtain ⟨ds, q4, g4⟩ := tkD_reads I h0 r1.2.1
        exact ⟨_, _, .cons q4 q1, .cons q3 q2, fun S => off_app (g4 S) (g1 S), fun S => off_app (g3 S) (g2 S)⟩
end
theorem RpA.reads (I : Inv X pins σ H s) (ds : List PyData) (vs : List V) (us : List Value) (h : RpA X.K H Z vs ds) (r : Vals vs us) : ∃ as, ReadsAll s.heap us ds as := let ⟨as, q, _⟩ := RpA.readsM I ds vs us h r; ⟨as, q⟩
end
end
section
variable [Wtp]
/-! ## the store in the heap -/
structure Mp where
  ix : Nat → Addr
  F : Addr → Prop
/-- none of the store's objects, and none that is being made -/
def Off (m : Mp) (n : Nat) (a : Addr) : Prop := (∀ i, i < n → m.ix i ≠ a) ∧ ¬ m.F a
/-- an exception's own dict -/
def XdAt (K : Frg) (H : Hp) (m : Mp) (n : Nat) (dd : Addr) (es : List (Str × PyData)) : Prop := ∃ fs : List (Str × V), H dd = some (.xd fs) ∧ fs.map (·.1) = es.map (·.1) ∧ RpA K H (Off m n) (fs.map (·.2)) (es.map (·.2)) ∧ Off m n dd
def RW (K : Frg) (H : Hp) (m : Mp) (n : Nat) (v : V) : Wv → Prop
  | .d x => Rp K H (Off m n) v x
  | .r i => i < n ∧ v = .ref (m.ix i)
  | .x a _ d => v = .ref a ∧ ∀ p, d = some p → XdAt K H m n p.1 p.2
inductive RWs (K : Frg) (H : Hp) (m : Mp) (n : Nat) : List V → List Wv → Prop
  | nil : RWs K H m n [] []
  | cons {v : V} {vs : List V} {w : Wv} {ws : List Wv} : RW K H m n v w → RWs K H m n vs ws → RWs K H m n (v :: vs) (w :: ws)
/-- a pinned list -/
def FzL (K : Frg) (H : Hp) (Z : Addr → Prop) (a : Addr) (xs : List PyData) : Prop := ∃ o vs, H a = some (.frz o (.lst vs)) ∧ RpA K H Z vs xs
theorem FzL.mv {K : Frg} {H H' : Hp} {Z Z' : Addr → Prop} {a : Addr} {xs : List PyData} (h : FzL K H Z a xs) (p : Kp K H Z H' Z') : FzL K H' Z' a xs := let ⟨o, vs, h1, h2⟩ := h; ⟨o, vs, p.frz _ _ _ h1, h2.mv p⟩
theorem FzL.rp {K : Frg} {H : Hp} {Z : Addr → Prop} {a : Addr} {xs : List PyData} (h : FzL K H Z a xs) : Rp K H Z (.ref a) (.list xs) := let ⟨_, _, h1, h2⟩ := h; .lst (.inr (.inl ⟨_, h1⟩)) h2
def ObAt (K : Frg) (H : Hp) (m : Mp) (n : Nat) (a : Addr) : Ob → Prop
  | .lst xs => ∃ vs, H a = some (.lst vs) ∧ RpA K H (Off m n) vs xs
  | .dct kvs => ∃ ks, H a = some (.dK ks) ∧ RpK K H (Off m n) ks kvs
  | .dtt kvs => ∃ ks, H a = some (.dT ks) ∧ RpT K H (Off m n) ks kvs
  | .lkd kvs => Rp K H (Off m n) (.ref a) (.dict kvs)
  | .lkl xs => FzL K H (Off m n) a xs
/-- the tables of code objects that the law's own defs make lambdas with -/
class Tbl where
  T : List (Addr × Str)
structure Sim [Tbl] (K : Frg) (H : Hp) (m : Mp) (st : Sto) : Prop where
  ob : ∀ (i : Nat) o, st[i]? = some o → ObAt K H m st.length (m.ix i) o
  inj : ∀ i j, i < st.length → j < st.length → m.ix i = m.ix j → i = j
  ff : ∀ a, m.F a → Nn H a
  fi : ∀ i, i < st.length → ¬ m.F (m.ix i)
  tb : LamX.Tabs Tbl.T H
variable [Tbl]
structure Fol (m : Mp) (n : Nat) (H : Hp) (m' : Mp) (n' : Nat) (H' : Hp) : Prop where
  tup : ∀ a xs, H a = some (.tup xs) → H' a = some (.tup xs)
  frz : ∀ a o u, H a = some (.frz o u) → H' a = some (.frz o u)
  rest : ∀ a o, NT o → H a = some o → (∀ i, i < n → m.ix i ≠ a) → H' a = some o
  old : ∀ i, i < n → m'.ix i = m.ix i
  new : ∀ i, n ≤ i → i < n' → ¬ Nn H (m'.ix i)
  le : n ≤ n'
  dom : ∀ a, Nn H a → Nn H' a
  eF : ∀ a, Nn H a → (m'.F a ↔ m.F a)
structure EnvR (K : Frg) (H : Hp) (m : Mp) (n : Nat) (env : En) (σ : L2.St) : Prop where
  len : env.length = σ.length
  at' : ∀ (i : Nat) w, env[i]? = some (some w) → ∃ v, σ[i]? = some (some v) ∧ RW K H m n v w
section
variable {K : Frg} {H H' H'' : Hp} {m m' m'' : Mp} {n n' n'' : Nat}
theorem ObAt.there {a : Addr} {o : Ob} (h : ObAt K H m n a o) : Nn H a := by
  cases o with
  | lst xs => obtain ⟨vs, e, _⟩ := h; exact ⟨_, e, nt_lst⟩
  | dct kvs => obtain ⟨vs, e, _⟩ := h; exact ⟨_, e, nt_dK⟩
  | dtt kvs => obtain ⟨vs, e, _⟩ := h; exact ⟨_, e, nt_dT⟩
  | lkd kvs =>
    cases (show Rp K H (Off m n) (.ref a) (.dict kvs) from h) with
    | dic h1 _ => exact ⟨_, h1, fun _ z => nomatch z⟩
    | dit h1 _ => exact ⟨_, h1, fun _ z => nomatch z⟩
  | lkl xs => obtain ⟨o, vs, h1, _⟩ := h; exact ⟨_, h1, fun _ z => nomatch z⟩
theorem Sim.there {st : Sto} (S : Sim K H m st) {i : Nat} (hi : i < st.length) : Nn H (m.ix i) := (S.ob i st[i] (List.getElem?_eq_getElem hi)).there
theorem Sim.fresh {st : Sto} (S : Sim K H m st) {a : Addr} (h : H a = none) : Off m st.length a := ⟨fun i hi e => nn_no h (e ▸ S.there hi), fun z => nn_no h (S.ff a z)⟩
theorem Fol.refl : Fol m n H m n H := ⟨fun _ _ h => h, fun _ _ _ h => h, fun _ _ _ h _ => h, fun _ _ => rfl, fun i a b => absurd b (by omega), Nat.le_refl _, fun _ h => h, fun _ _ => Iff.rfl⟩
theorem Fol.off1 (f : Fol m n H m' n' H') {a : Addr} (z : ∀ i, i < n → m.ix i ≠ a) (h : Nn H a) : ∀ i, i < n' → m'.ix i ≠ a := fun i hi e => by
  by_cases q : i < n
  · exact z i q ((f.old i q).symm.trans e)
  · exact f.new i (by omega) hi (by rw [e]; exact h)
theorem Fol.off (f : Fol m n H m' n' H') {a : Addr} (z : Off m n a) (h : Nn H a) : Off m' n' a := ⟨f.off1 z.1 h, fun q => z.2 ((f.eF a h).mp q)⟩
theorem Fol.kp (f : Fol m n H m' n' H') : Kp K H (Off m n) H' (Off m' n') :=
  ⟨f.tup, f.frz, fun a o nt h z => ⟨f.rest a o nt.nt h z.1, f.off z ⟨o, h, nt.nt⟩⟩⟩
theorem Fol.trans (f : Fol m n H m' n' H') (g : Fol m' n' H' m'' n'' H'') : Fol m n H m'' n'' H'' where
  tup a xs h := g.tup a xs (f.tup a xs h)
  frz a o u h := g.frz a o u (f.frz a o u h)
  rest a o nt h z := g.rest a o nt (f.rest a o nt h z) (f.off1 z ⟨o, h, nt⟩)
  old i hi := (g.old i (Nat.lt_of_lt_of_le hi f.le)).trans (f.old i hi)
  new i h1 h2 := by
    by_cases q : i < n'
    · rw [g.old i q]; exact f.new i h1 q
    · exact fun z => g.new i (by omega) h2 (f.dom _ z)
  le := Nat.le_trans f.le g.le
  dom a h := g.dom a (f.dom a h)
  eF a h := (g.eF a (f.dom a h)).trans (f.eF a h)
theorem domOf (h : ∀ a o, H a = some o → H' a = some o) : ∀ a, Nn H a → Nn H' a := fun a ⟨o, e, nt⟩ => ⟨o, h _ _ e, nt⟩
theorem Fol.same (h : ∀ a o, H a = some o → H' a = some o) : Fol m n H m n H' :=
  ⟨fun _ _ q => h _ _ q, fun _ _ _ q => h _ _ q, fun _ _ _ q _ => h _ _ q, fun _ _ => rfl, fun i a b => absurd b (by omega), Nat.le_refl _, domOf h, fun _ _ => Iff.rfl⟩
theorem XdAt.mv {dd : Addr} {es : List (Str × PyData)} (h : XdAt K H m n dd es) (f : Fol m n H m' n' H') : XdAt K H' m' n' dd es := by
  obtain ⟨fs, h1, h2, h3, h4⟩ := h
  have nt : NT (.xd fs) := fun _ z => nomatch z
  exact ⟨fs, f.rest dd _ nt h1 h4.1, h2, h3.mv f.kp, f.off h4 ⟨_, h1, nt⟩⟩
theorem RW.mv {v : V} {w : Wv} (h : RW K H m n v w) (f : Fol m n H m' n' H') : RW K H' m' n' v w := by
  cases w with
  | d x => exact Rp.mv h f.kp
  | r i => exact ⟨Nat.lt_of_lt_of_le h.1 f.le, by rw [f.old i h.1]; exact h.2⟩
  | x a c d => exact ⟨h.1, fun p e => (h.2 p e).mv f⟩
theorem RWs.mv : ∀ {vs : List V} {ws : List Wv}, RWs K H m n vs ws → Fol m n H m' n' H' → RWs K H' m' n' vs ws
  | _, _, .nil, _ => .nil
  | _, _, .cons h1 h2, f => .cons (h1.mv f) (RWs.mv h2 f)
theorem RWs.len : ∀ {vs : List V} {ws : List Wv}, RWs K H m n vs ws → vs.length = ws.length
  | _, _, .nil => rfl
  | _, _, .cons _ h => by simp [RWs.len h]
theorem EnvR.mv {env : En} {σ : L2.St} (h : EnvR K H m n env σ) (f : Fol m n H m' n' H') : EnvR K H' m' n' env σ :=
  ⟨h.len, fun i w e => let ⟨v, h1, h2⟩ := h.at' i w e; ⟨v, h1, h2.mv f⟩⟩
theorem EnvR.set {env : En} {σ : L2.St} {v : V} {w : Wv} (h : EnvR K H m n env σ) (i : Nat) (r : RW K H m n v w) : EnvR K H m n (env.set i (some w)) (σ.set i (some v)) := by
  refine ⟨by simp [h.len], fun j u e => ?_⟩
  by_cases q : i = j
  · subst q
    by_cases l : i < env.length
    · rw [List.getElem?_set_self l] at e
      cases e
      exact ⟨v, List.getElem?_set_self (by rw [← h.len]; exact l), r⟩
    · rw [List.getElem?_eq_none (by simpa using l)] at e; cases e
  · rw [List.getElem?_set_ne q] at e
    obtain ⟨x, h1, h2⟩ := h.at' j u e
    exact ⟨x, by rw [List.getElem?_set_ne q]; exact h1, h2⟩
theorem ObAt.mv {a : Addr} {o : Ob} (h : ObAt K H m n a o) (f : Fol m n H m' n' H') (e : ∀ u, H a = some u → H' a = some u) : ObAt K H' m' n' a o := by
  cases o with
  | lst xs => obtain ⟨vs, h1, h2⟩ := h; exact ⟨vs, e _ h1, h2.mv f.kp⟩
  | dct kvs => obtain ⟨vs, h1, h2⟩ := h; exact ⟨vs, e _ h1, RpK.kp f.kp _ _ h2⟩
  | dtt kvs => obtain ⟨vs, h1, h2⟩ := h; exact ⟨vs, e _ h1, RpT.kp f.kp _ _ h2⟩
  | lkd es => exact Rp.mv h f.kp
  | lkl xs => exact FzL.mv h f.kp
/-- the store in a heap that has grown -/
theorem Sim.grow {st : Sto} (S : Sim K H m st) (h : ∀ a o, H a = some o → H' a = some o) : Sim K H' m st :=
  ⟨fun i o e => (S.ob i o e).mv (.same h) fun u => h _ u, S.inj, fun a z => (Fol.same (m := m) (n := 0) h).dom a (S.ff a z), S.fi, S.tb.ext h⟩
theorem grow_upd {p : Addr} {o : HO} (h : H p = none) : ∀ a u, H a = some u → upd H p o a = some u := fun a u e => by
  rw [upd_ne (ne_of_none e h)]; exact e
end
/-! ## an exception in the heap -/
structure ExR (K : Frg) (mg : Str → Option Value) (H : Hp) (m : Mp) (n : Nat) (e : Xc) (c : Value) (d : Option Addr) : Prop where
  cls : ∃ C, mg e.name = some (.ref C) ∧ c = .ref C
  fld : (e.fs = [] ∧ d = none) ∨ ∃ dd, d = some dd ∧ XdAt K H m n dd e.fs
/-! ## judgements -/
/-- what a value's end asks -/
def okE (X : Cx) (m : Mp) (n : Nat) (H : Hp) (Q : VK) : Wv → Sto → Prop := fun w st' => ∀ v H' m', Fol m n H m' st'.length H' → Sim X.K H' m' st' → RW X.K H' m' st'.length v w → Q v H'
def okX (X : Cx) (W : WX) (m : Mp) (n : Nat) (H : Hp) (σ : L2.St) : Xc → Sto → Prop := fun e st' => ∀ c d H' m', Fol m n H m' st'.length H' → Sim X.K H' m' st' → ExR X.K X.mg H' m' st'.length e c d → W c d σ H'
def tE (X : Cx) (W : WX) (c : En → Sto → Rs Wv) : TE := fun σ H Q => ∃ m env st, Sim X.K H m st ∧ EnvR X.K H m st.length env σ ∧ (c env st).post (okE X m st.length H Q) (okX X W m st.length H σ)
def tT (X : Cx) (W : WX) (c : En → Sto → Rs Bool) : TT := fun σ H Q => ∃ m env st, Sim X.K H m st ∧ EnvR X.K H m st.length env σ ∧ (c env st).post (fun b st' => ∀ H' m', Fol m st.length H m' st'.length H' → Sim X.K H' m' st' → Q b H') (okX X W m st.length H σ)
def tA (X : Cx) (W : WX) (c : En → Sto → Rs (List Wv)) : TA := fun σ H Q => ∃ m env st, Sim X.K H m st ∧ EnvR X.K H m st.length env σ ∧
  (c env st).post (fun ws st' => ∀ vs H' m', Fol m st.length H m' st'.length H' → Sim X.K H' m' st' → RWs X.K H' m' st'.length vs ws → Q vs H') (okX X W m st.length H σ)
structure DE (X : Cx) (e : Expr) (c : En → Sto → Rs Wv) : Prop where
  pe : ∀ W, Takes X W → PE X e (tE X W c)
structure DT (X : Cx) (e : Expr) (c : En → Sto → Rs Bool) : Prop where
  pt : ∀ W, Takes X W → PT X e (tT X W c)
structure DA (X : Cx) (es : List Expr) (c : En → Sto → Rs (List Wv)) : Prop where
  pa : ∀ W, Takes X W → PA X es (tA X W c)
/-- what a def's or a block's text stands in -/
structure Tb where
  N : List Str
  us : List Nat
  ls : List Nat
  ps : List Nat
  gs : List Str
  cs : List Str
  fn : Bool
  gd : Bool
  /-- the name of the lambdas that it makes -/
  lq : Option Str
/-- the module -/
structure Md where
  P : Program
  w : World
  K : Frg
  mg : Str → Option Value
  base : Heap
/-- the code object of a def that makes lambdas, and its table -/
structure LamC (mg : Str → Option Value) (base : Heap) (q : Str) (cd : Value) : Prop where
  at' : ∃ c P : Addr, cd = .ref c ∧ (P, q) ∈ Tbl.T ∧ (∀ p ∈ Tbl.T, p.1 = P → p.2 = q) ∧ LamX.TabB base mg c P
structure Cxt (M : Md) (X : Cx) (B : Tb) (k : Nat) : Prop where
  hP : X.prog = M.P
  hw : X.w = M.w
  hK : X.K = M.K
  mg : X.mg = M.mg
  hb : X.base = M.base
  hN : X.N = B.N
  nd : B.N.Nodup
  calm : X.calm = true
  kind : B.fn = true → X.env.scope.kind = .function
  room : Room k X.A
  gu : B.gd = true → X.A.guards = some []
  vis : ∀ i ∈ B.us, ∀ x, B.N[i]? = some x → Vis X.env.scope x
  loc : ∀ i ∈ B.ls, ∀ x, B.N[i]? = some x → Loc X.env.scope x ∧ (X.fn x = true ∨ X.env.scope.names.lookup x = some .local)
  pl : ∀ i ∈ B.ps, ∀ x, B.N[i]? = some x → X.env.scope.names.lookup x = some .local
  gl : ∀ (j : Nat) x, B.gs[j]? = some x → Gl X x
  cs : ∀ x ∈ B.cs, X.env.scope.names.lookup x = some .cell ∨ X.env.scope.names.lookup x = some .free
  po : B.fn = true → PassesOwn (model X.prog X.w) X.A X.env X.xe
  lam : ∀ q, B.lq = some q → X.env.qual ++ "<lambda>" = q ∧ LamC M.mg M.base q X.env.code
  fr : B.fn = true → X.stack = X.env :: X.outer ∧ X.env.frame = some X.env.locals
theorem Cxt.sm {M : Md} {X : Cx} {B : Tb} {k : Nat} (c : Cxt M X B k) (h : SysM M.base) : SysM X.base := by rw [c.hb]; exact h
theorem Cxt.roomH {M : Md} {X : Cx} {B : Tb} {k : Nat} (c : Cxt M X B k) : L2H.RoomH k X.A := L2H.roomH_of c.room
section
variable {M : Md} {X : Cx} {B : Tb} {k : Nat} {pins : List (Addr × Obj)} {σ : L2.St} {H : Hp} {s : Shared} {m : Mp} {env : En} {st : Sto} {W : WX}
/-- use a value's judgement -/
theorem DE.go {e : Expr} {c : En → Sto → Rs Wv} (h : DE X e c) (tk : Takes X W) (I : Inv X pins σ H s) (S : Sim X.K H m st) (R : EnvR X.K H m st.length env σ) {Q : Value → Shared → Prop}
    (hp : (c env st).post (fun w st' => ∀ v H' m' u s', Inv X pins σ H' s' → RelV v u → Fol m st.length H m' st'.length H' → Sim X.K H' m' st' → RW X.K H' m' st'.length v w → Q u s') (okX X W m st.length H σ)) :
    wpAny (model X.prog X.w) X.A (eval e X.env) Q X.xe s := by
  refine thn ((h.pe W tk).run pins s σ H (fun v H' => ∀ u s', Inv X pins σ H' s' → RelV v u → Q u s') I ⟨m, env, st, S, R, Rs.post_mono hp (fun w st' q v H' m' f S' r u s' I' rv => q v H' m' u s' I' rv f S' r) fun _ _ q => q⟩) fun u s' q => ?_
  obtain ⟨v, H', I', rv, q⟩ := q
  exact q u s' I' rv
theorem DT.go {e : Expr} {c : En → Sto → Rs Bool} (h : DT X e c) (tk : Takes X W) (I : Inv X pins σ H s) (S : Sim X.K H m st) (R : EnvR X.K H m st.length env σ) {Q : Bool → Shared → Prop}
    (hp : (c env st).post (fun b st' => ∀ H' m' s', Inv X pins σ H' s' → Fol m st.length H m' st'.length H' → Sim X.K H' m' st' → Q b s') (okX X W m st.length H σ)) :
    wpAny (model X.prog X.w) X.A (isTrue e X.env (eval e X.env)) Q X.xe s := by
  refine thn ((h.pt W tk).run pins s σ H (fun b H' => ∀ s', Inv X pins σ H' s' → Q b s') I ⟨m, env, st, S, R, Rs.post_mono hp (fun b st' q H' m' f S' s' I' => q H' m' s' I' f S') fun _ _ q => q⟩) fun b s' q => ?_
  obtain ⟨H', I', q⟩ := q
  exact q s' I'
theorem DA.go {es : List Expr} {c : En → Sto → Rs (List Wv)} (h : DA X es c) (tk : Takes X W) (I : Inv X pins σ H s) (S : Sim X.K H m st) (R : EnvR X.K H m st.length env σ) {Q : List Value → Shared → Prop} (pos : Pos)
    (hp : (c env st).post (fun ws st' => ∀ vs H' m' us s', Inv X pins σ H' s' → Vals vs us → Fol m st.length H m' st'.length H' → Sim X.K H' m' st' → RWs X.K H' m' st'.length vs ws → Q us s') (okX X W m st.length H σ)) :
    wpAny (model X.prog X.w) X.A (spliced (backTo pos (starEach es X.env))) Q X.xe s := by
  refine thn ((h.pa W tk).run pos pins s σ H (fun vs H' => ∀ us s', Inv X pins σ H' s' → Vals vs us → Q us s') I ⟨m, env, st, S, R, Rs.post_mono hp (fun w st' q vs H' m' f S' r us s' I' rv => q vs H' m' us s' I' rv f S' r) fun _ _ q => q⟩) fun u s' q => ?_
  obtain ⟨v, H', I', rv, q⟩ := q
  exact q u s' I' rv
/-- state a value's judgement -/
theorem DE.mk' {e : Expr} {c : En → Sto → Rs Wv} (h : ∀ (W : WX) (pins : List (Addr × Obj)) (σ : L2.St) (H : Hp) (s : Shared) (m : Mp) (env : En) (st : Sto) (Q : Value → Shared → Prop), Takes X W → Inv X pins σ H s → Sim X.K H m st → EnvR X.K H m st.length env σ →
    (c env st).post (fun w st' => ∀ v H' m' u s', Inv X pins σ H' s' → RelV v u → Fol m st.length H m' st'.length H' → Sim X.K H' m' st' → RW X.K H' m' st'.length v w → Q u s') (okX X W m st.length H σ) →
    wpAny (model X.prog X.w) X.A (eval e X.env) Q X.xe s) : DE X e c := by
  refine ⟨fun W tk => ⟨fun pins s σ H Q I ⟨m, env, st, S, R, hp⟩ => h W pins σ H s m env st _ tk I S R (Rs.post_mono hp (fun w st' q v H' m' u s' I' rv f S' r => ?_) fun _ _ q => q)⟩⟩
  exact ⟨v, H', I', rv, q v H' m' f S' r⟩
theorem DT.mk' {e : Expr} {c : En → Sto → Rs Bool} (h : ∀ (W : WX) (pins : List (Addr × Obj)) (σ : L2.St) (H : Hp) (s : Shared) (m : Mp) (env : En) (st : Sto) (Q : Bool → Shared → Prop), Takes X W → Inv X pins σ H s → Sim X.K H m st → EnvR X.K H m st.length env σ →
    (c env st).post (fun b st' => ∀ H' m' s', Inv X pins σ H' s' → Fol m st.length H m' st'.length H' → Sim X.K H' m' st' → Q b s') (okX X W m st.length H σ) →
    wpAny (model X.prog X.w) X.A (isTrue e X.env (eval e X.env)) Q X.xe s) : DT X e c := by
  refine ⟨fun W tk => ⟨fun pins s σ H Q I ⟨m, env, st, S, R, hp⟩ => h W pins σ H s m env st _ tk I S R (Rs.post_mono hp (fun b st' q H' m' s' I' f S' => ?_) fun _ _ q => q)⟩⟩
  exact ⟨H', I', q H' m' f S'⟩
theorem DA.mk' {es : List Expr} {c : En → Sto → Rs (List Wv)} (h : ∀ (W : WX) (pins : List (Addr × Obj)) (σ : L2.St) (H : Hp) (s : Shared) (m : Mp) (env : En) (st : Sto) (Q : List Value → Shared → Prop) (pos : Pos), Takes X W → Inv X pins σ H s → Sim X.K H m st → EnvR X.K H m st.length env σ →
    (c env st).post (fun ws st' => ∀ vs H' m' us s', Inv X pins σ H' s' → Vals vs us → Fol m st.length H m' st'.length H' → Sim X.K H' m' st' → RWs X.K H' m' st'.length vs ws → Q us s') (okX X W m st.length H σ) →
    wpAny (model X.prog X.w) X.A (spliced (backTo pos (starEach es X.env))) Q X.xe s) : DA X es c := by
  refine ⟨fun W tk => ⟨fun pos pins s σ H Q I ⟨m, env, st, S, R, hp⟩ => h W pins σ H s m env st _ pos tk I S R (Rs.post_mono hp (fun w st' q v H' m' u s' I' rv f S' r => ?_) fun _ _ q => q)⟩⟩
  exact ⟨v, H', I', rv, q v H' m' f S' r⟩
/-- what follows a first part asks of the rest -/
theorem okX.tr {m1 : Mp} {n n1 : Nat} {H1 : Hp} {e : Xc} {st' : Sto} (f : Fol m n H m1 n1 H1) (h : okX X W m n H σ e st') : okX X W m1 n1 H1 σ e st' := fun c d H' m' f' S' r => h c d H' m' (f.trans f') S' r
/-! ### names, constants -/
def eVar (i : Nat) : En → Sto → Rs Wv := fun env st => match env[i]? with
  | some (some w) => .ok w st
  | _ => .no
theorem de_var (c : Cxt M X B k) (i : Nat) {x : Str} {pos : Pos} (h : B.N[i]? = some x) (hu : i ∈ B.us) (hd : (x == ("__debug__" : Str)) = false := by decide) (hc : (x == ("__classdict__" : Str)) = false := by decide) : DE X (.Name x pos) (eVar i) := by
  refine ⟨fun W tk => ⟨fun pins s σ H Q I ⟨m, env, st, S, R, hp⟩ => (pe_var (i := i) (by rw [c.hN]; exact h) (c.vis i hu x h) hd hc).run pins s σ H Q I ?_⟩⟩
  unfold eVar at hp
  split at hp
  · rename_i w e
    obtain ⟨v, hv, r⟩ := R.at' i w e
    exact ⟨v, hv, hp v H m .refl S r⟩
  · exact hp.elim
def eK (x : PyData) : En → Sto → Rs Wv := fun _ st => .ok (.d x) st
theorem de_pure {e : Expr} {v : V} {x : PyData} (h : PE X e (tC v)) (r : ∀ K H Z, Rp K H Z v x) : DE X e (eK x) :=
  ⟨fun W tk => ⟨fun pins s σ H Q I ⟨m, env, st, S, R, hp⟩ => h.run pins s σ H Q I (hp v H m .refl S (r _ _ _))⟩⟩
theorem de_int {i : Int} {j : Nat} {pos : Pos} : DE X (.Constant (.int i) j pos) (eK (.int i)) := de_pure pe_int fun _ _ _ => .int i
theorem de_bl {b : Bool} {j : Nat} {pos : Pos} : DE X (.Constant (.bool b) j pos) (eK (.bool b)) := de_pure pe_bl fun _ _ _ => .bl b
theorem de_non {j : Nat} {pos : Pos} : DE X (.Constant .none j pos) (eK .none) := de_pure pe_non fun _ _ _ => .non
theorem de_str {x : Str} {j : Nat} {pos : Pos} : DE X (.Constant (.str x) j pos) (eK (.str x)) := de_pure pe_str fun _ _ _ => .str x
/-- a constant of the module -/
theorem de_glob {x : Str} {pos : Pos} {v : V} {u : Value} {y : PyData} (c : Cxt M X B k) (j : Nat) (h : B.gs[j]? = some x) (hm : M.mg x = some u) (r : RelV v u) (ry : ∀ H Z, Rp M.K H Z v y) (hd : (x == ("__debug__" : Str)) = false := by decide) : DE X (.Name x pos) (eK y) :=
  ⟨fun W tk => ⟨fun pins s σ H Q I ⟨m, env, st, S, R, hp⟩ => (pe_glob (c.gl j x h) (by rw [c.mg]; exact hm) r hd).run pins s σ H Q I (hp v H m .refl S (by rw [c.hK]; exact ry _ _))⟩⟩
end
end
section
variable [Wtp] [Tbl]
/-! ## data at the top: a list of the store too -/
/-- a dict that is read -/
def DkT (K : Frg) (H : Hp) (Z : Addr → Prop) (a : Addr) (es : List (PyData × PyData)) : Prop := (∃ ks, Rd H a (.dK ks) ∧ RpK K H Z ks es) ∨ ∃ ks, Rd H a (.dT ks) ∧ RpT K H Z ks es
def RT (K : Frg) (H : Hp) (Z : Addr → Prop) (v : V) (d : PyData) : Prop :=
  Rp K H Z v d ∨ (∃ a vs ds, v = .ref a ∧ d = .list ds ∧ H a = some (.lst vs) ∧ RpA K H Z vs ds) ∨ ∃ a, ∃ (_ : Unit), ∃ es, v = .ref a ∧ d = .dict es ∧ DkT K H Z a es
inductive RTs (K : Frg) (H : Hp) (Z : Addr → Prop) : List V → List PyData → Prop
  | nil : RTs K H Z [] []
  | cons {v : V} {vs : List V} {d : PyData} {ds : List PyData} : RT K H Z v d → RTs K H Z vs ds → RTs K H Z (v :: vs) (d :: ds)
section
variable {K : Frg} {H : Hp} {Z : Addr → Prop} {m : Mp} {st : Sto} {v : V}
theorem look_rt {w : Wv} {d : PyData} (S : Sim K H m st) (r : RW K H m st.length v w) (e : look st w = some d) : RT K H (Off m st.length) v d := by
  cases w with
  | d x =>
    cases e
    exact .inl r
  | r i =>
    obtain ⟨hi, rfl⟩ := r
    simp only [look] at e
    cases q : st[i]? with
    | none => rw [q] at e; cases e
    | some o =>
      rw [q] at e
      have h := S.ob i o q
      cases o with
      | lst xs =>
        cases e
        obtain ⟨vs, h1, h2⟩ := h
        exact .inr (.inl ⟨_, vs, xs, rfl, rfl, h1, h2⟩)
      | dct kvs =>
        cases e
        obtain ⟨vs, h1, h2⟩ := h
        exact .inr (.inr ⟨_, (), kvs, rfl, rfl, .inl ⟨vs, .inl h1, h2⟩⟩)
      | dtt kvs =>
        cases e
        obtain ⟨vs, h1, h2⟩ := h
        exact .inr (.inr ⟨_, (), kvs, rfl, rfl, .inr ⟨vs, .inl h1, h2⟩⟩)
      | lkd kvs =>
        cases e
        exact .inl h
      | lkl xs =>
        cases e
        exact .inl (FzL.rp h)
  | x a c d => cases e
theorem RT.non (h : RT K H Z v .none) : v = .non := by
  rcases h with h | ⟨_, _, _, _, e, _⟩ | ⟨_, _, _, _, e, _⟩
  · cases h; rfl
  · cases e
  · cases e
theorem RT.int {i : Int} (h : RT K H Z v (.int i)) : v = .int i := by
  rcases h with h | ⟨_, _, _, _, e, _⟩ | ⟨_, _, _, _, e, _⟩
  · cases h; rfl
  · cases e
  · cases e
theorem RT.bl {b : Bool} (h : RT K H Z v (.bool b)) : v = .bl b := by
  rcases h with h | ⟨_, _, _, _, e, _⟩ | ⟨_, _, _, _, e, _⟩
  · cases h; rfl
  · cases e
  · cases e
theorem RT.str {x : Str} (h : RT K H Z v (.str x)) : v = .str x := by
  rcases h with h | ⟨_, _, _, _, e, _⟩ | ⟨_, _, _, _, e, _⟩
  · cases h; rfl
  · cases e
  · cases e
theorem RT.tupT {ds : List PyData} (h : RT K H Z v (.tuple ds)) : ∃ a vs, v = .ref a ∧ TpAt K H a vs ds ∧ RpA K H Z vs ds := by
  rcases h with h | ⟨_, _, _, _, e, _⟩ | ⟨_, _, _, _, e, _⟩
  · cases h with | tup h1 h2 => exact ⟨_, _, rfl, h1, h2⟩
  · cases e
  · cases e
theorem RT.tup {ds : List PyData} (h : RT K H Z v (.tuple ds)) : ∃ a vs, v = .ref a ∧ SqT K H a vs ∧ RpA K H Z vs ds := by
  rcases h with h | ⟨_, _, _, _, e, _⟩ | ⟨_, _, _, _, e, _⟩
  · cases h with | tup h1 h2 => exact ⟨_, _, rfl, h1.sq, h2⟩
  · cases e
  · cases e
theorem RT.lst {ds : List PyData} (h : RT K H Z v (.list ds)) : ∃ a vs, v = .ref a ∧ LsX K H a vs ∧ RpA K H Z vs ds := by
  rcases h with h | ⟨a, vs, xs, rfl, e, h1, h2⟩ | ⟨_, _, _, _, e, _⟩
  · cases h with | lst h1 h2 => exact ⟨_, _, rfl, h1.x, h2⟩
  · cases e; exact ⟨a, vs, rfl, .inl ⟨h1, trivial⟩, h2⟩
  · cases e
theorem RT.dic {es : List (PyData × PyData)} (h : RT K H Z v (.dict es)) : ∃ a, v = .ref a ∧ DkT K H Z a es := by
  rcases h with h | ⟨_, _, _, _, e, _⟩ | ⟨a, ks, xs, rfl, e, h1⟩
  · cases h with
    | dic h1 h2 => exact ⟨_, rfl, .inl ⟨_, .inr ⟨_, h1⟩, h2⟩⟩
    | dit h1 h2 => exact ⟨_, rfl, .inr ⟨_, .inr ⟨_, h1⟩, h2⟩⟩
  · cases e
  · cases e; exact ⟨a, rfl, h1⟩
end
section
variable {X : Cx} {pins : List (Addr × Obj)} {σ : L2.St} {H : Hp} {s : Shared} {Z : Addr → Prop}
theorem Inv.rtM (I : Inv X pins σ H s) {v : V} {u : Value} {d : PyData} (h : RT X.K H Z v d) (r : RelV v u) : ∃ as, Reads s.heap u d as ∧ (SysM s.heap → sysModules ∉ as) := by
  rcases h with h | ⟨a, vs, ds, rfl, rfl, h1, h2⟩ | ⟨a, ks, es, rfl, rfl, h1⟩
  · exact Rp.readsM I d v u h r
  · cases r
    obtain ⟨its, rv, ⟨o, n, ho, hc, _, hd⟩, _⟩ := I.list (.inl (.inl h1))
    obtain ⟨as, hr, g⟩ := RpA.readsM I ds _ its h2 rv
    exact ⟨_, .list ho hc hd hr, fun S => off_cons (S.seq ho hd) (g S)⟩
  · cases r
    rcases h1 with ⟨ks, h1, h2⟩ | ⟨ks, h1, h2⟩
    · obtain ⟨_, hm, vs, kv, o, ents, ep, ho, hc, hd, _, he, _⟩ := (show ObjOk X.prog X.w H s.heap _ (.dK _) from h1.ok I.hok)
      obtain ⟨as, bs, r1, r2, g1, g2⟩ := RpK.readsM I es _ vs ents.toList h2 kv he
      exact ⟨_, .dict ho hc.1 hd r1 r2, fun S => off_app (off_cons (fun z => by subst z; cases hm) (g1 S)) (g2 S)⟩
    · obtain ⟨_, hm, xs, kt, o, ents, ep, ho, hc, hd, he, _⟩ := (show ObjOk X.prog X.w H s.heap _ (.dT _) from h1.ok I.hok)
      obtain ⟨as, bs, r1, r2, g1, g2⟩ := RpT.readsM I es _ xs h2 kt
      rw [← he] at r1 r2
      exact ⟨_, .dict ho hc.1 hd r1 r2, fun S => off_app (off_cons (fun z => by subst z; cases hm) (g1 S)) (g2 S)⟩
theorem Inv.rt (I : Inv X pins σ H s) {v : V} {u : Value} {d : PyData} (h : RT X.K H Z v d) (r : RelV v u) : ∃ as, Reads s.heap u d as := let ⟨as, q, _⟩ := Inv.rtM I h r; ⟨as, q⟩
end
/-! ## operations on data -/
/-- what an operation's rule tells: its end, for whoever goes on -/
def rOut (K : Frg) (H : Hp) (Z : Addr → Prop) (r : PyData) (Q : VK) : Prop := ∀ z H', (∀ a o, H a = some o → H' a = some o) → Rp K H' Z z r → Q z H'
def rD (K : Frg) (f : PyData → PyData → Option PyData) : R2 := fun x y H Q => ∃ Z d e r, (∀ a, H a = none → Z a) ∧ RT K H Z x d ∧ RT K H Z y e ∧ f d e = some r ∧ rOut K H Z r Q
def rN (K : Frg) (f : List PyData → Option PyData) : List V → Hp → VK → Prop := fun vs H Q => ∃ Z ds r, (∀ a, H a = none → Z a) ∧ RTs K H Z vs ds ∧ f ds = some r ∧ rOut K H Z r Q
def rU1 (K : Frg) (f : PyData → Option PyData) : V → Hp → VK → Prop := fun x H Q => ∃ Z d r, (∀ a, H a = none → Z a) ∧ RT K H Z x d ∧ f d = some r ∧ rOut K H Z r Q
/-- the truth of data -/
def truD : PyData → Bool
  | .none => false
  | .bool b => b
  | .int i => i != 0
  | .str x => x.length != 0
  | .list xs => !xs.isEmpty
  | .tuple xs => !xs.isEmpty
  | .dict es => !es.isEmpty
def strOk : PyData → Bool
  | .str x => decide (x.length ≤ 1000000)
  | .dict _ => false
  | _ => true
theorem line_lim : 1000000 ≤ sizeLine := by rw [sizeLine_eq]; decide
def ret1 (r : Option PyData) (st : Sto) : Rs Wv := match r with
  | some x => .ok (.d x) st
  | none => .no
@[simp] theorem ret1_some (x : PyData) (st : Sto) : ret1 (some x) st = .ok (.d x) st := rfl
@[simp] theorem ret1_none (st : Sto) : ret1 none st = .no := rfl
def look1 (w : Wv) (st : Sto) (f : PyData → Rs Wv) : Rs Wv := match look st w with
  | some d => f d
  | none => .no
@[simp] theorem look1_d (x : PyData) (st : Sto) (f : PyData → Rs Wv) : look1 (.d x) st f = f x := rfl
def looks : List Wv → Sto → Option (List PyData)
  | [], _ => some []
  | w :: ws, st => match look st w, looks ws st with
    | some d, some ds => some (d :: ds)
    | _, _ => none
@[simp] theorem looks_nil (st : Sto) : looks [] st = some [] := rfl
@[simp] theorem looks_d (x : PyData) (ws : List Wv) (st : Sto) : looks (.d x :: ws) st = (looks ws st).map (x :: ·) := by
  simp only [looks, look_d]
  cases looks ws st <;> rfl
def eOp2 (f : PyData → PyData → Option PyData) (ca cb : En → Sto → Rs Wv) : En → Sto → Rs Wv := fun env st =>
  (ca env st).bind fun a st1 => (cb env st1).bind fun b st2 => look1 a st2 fun d => look1 b st2 fun e => ret1 (f d e) st2
def eOp1 (f : PyData → Option PyData) (ca : En → Sto → Rs Wv) : En → Sto → Rs Wv := fun env st => (ca env st).bind fun a st1 => look1 a st1 fun d => ret1 (f d) st1
def aNil : En → Sto → Rs (List Wv) := fun _ st => .ok [] st
def aCons (ca : En → Sto → Rs Wv) (cs : En → Sto → Rs (List Wv)) : En → Sto → Rs (List Wv) := fun env st => (ca env st).bind fun a st1 => (cs env st1).bind fun r st2 => .ok (a :: r) st2
def eOpN (f : List PyData → Option PyData) (cs : En → Sto → Rs (List Wv)) : En → Sto → Rs Wv := fun env st =>
  (cs env st).bind fun ws st1 => match looks ws st1 with
    | some ds => ret1 (f ds) st1
    | none => .no
/-- the truth of a value -/
def tru (w : Wv) (st : Sto) : Rs Bool := match look st w with
  | some d => if strOk d then .ok (truD d) st else .no
  | none => .no
@[simp] theorem tru_bool (b : Bool) (st : Sto) : tru (.d (.bool b)) st = .ok b st := rfl
def tTru (c : En → Sto → Rs Wv) : En → Sto → Rs Bool := fun env st => (c env st).bind tru
def tAnd2 (a b : En → Sto → Rs Bool) : En → Sto → Rs Bool := fun env st => (a env st).bind fun x st1 => if x then b env st1 else .ok false st1
def tOr2 (a b : En → Sto → Rs Bool) : En → Sto → Rs Bool := fun env st => (a env st).bind fun x st1 => if x then .ok true st1 else b env st1
def tNot1 (a : En → Sto → Rs Bool) : En → Sto → Rs Bool := fun env st => (a env st).bind fun x st1 => .ok (!x) st1
def eAnd2 (a b : En → Sto → Rs Wv) : En → Sto → Rs Wv := fun env st => (a env st).bind fun w st1 => (tru w st1).bind fun x st2 => if x then b env st2 else .ok w st2
def eOr2 (a b : En → Sto → Rs Wv) : En → Sto → Rs Wv := fun env st => (a env st).bind fun w st1 => (tru w st1).bind fun x st2 => if x then .ok w st2 else b env st2
def eNot1 (a : En → Sto → Rs Wv) : En → Sto → Rs Wv := fun env st => (a env st).bind fun w st1 => (tru w st1).bind fun x st2 => .ok (.d (.bool (!x))) st2
def eIf (t : En → Sto → Rs Bool) (a b : En → Sto → Rs Wv) : En → Sto → Rs Wv := fun env st => (t env st).bind fun x st1 => if x then a env st1 else b env st1
/-- a op b op' c -/
def eChain (f g : PyData → PyData → Option PyData) (ca cb cc : En → Sto → Rs Wv) : En → Sto → Rs Wv := fun env st =>
  (ca env st).bind fun a st1 => (cb env st1).bind fun b st2 => look1 a st2 fun d => look1 b st2 fun e => match f d e with
    | some (.bool true) => (cc env st2).bind fun c st3 => look1 b st3 fun e' => look1 c st3 fun y => ret1 (g e' y) st3
    | some (.bool false) => .ok (.d (.bool false)) st2
    | _ => .no
def allD : List Wv → Option (List PyData)
  | [] => some []
  | .d x :: ws => (allD ws).map (x :: ·)
  | .r _ :: _ => none
  | .x _ _ _ :: _ => none
@[simp] theorem allD_nil : allD [] = some [] := rfl
@[simp] theorem allD_cons (x : PyData) (ws : List Wv) : allD (.d x :: ws) = (allD ws).map (x :: ·) := rfl
def eTup (cs : En → Sto → Rs (List Wv)) : En → Sto → Rs Wv := fun env st => (cs env st).bind fun ws st1 => match allD ws with
  | some ds => if ds.length ≤ 1000000 then .ok (.d (.tuple ds)) st1 else .no
  | none => .no
def eLst (cs : En → Sto → Rs (List Wv)) : En → Sto → Rs Wv := fun env st => (cs env st).bind fun ws st1 => match allD ws with
  | some ds => if ds.length ≤ 1000000 then .ok (.d (.list ds)) st1 else .no
  | none => .no
/-- a new list of the store -/
def eNewL (cs : En → Sto → Rs (List Wv)) : En → Sto → Rs Wv := fun env st => (cs env st).bind fun ws st1 => match allD ws with
  | some ds => if ds.length ≤ 1000000 then .ok (.r st1.length) (st1 ++ [.lst ds]) else .no
  | none => .no
def eNewD : En → Sto → Rs Wv := fun _ st => .ok (.r st.length) (st ++ [.dct []])
/-- a new dict whose keys will be tuples -/
def eNewT : En → Sto → Rs Wv := fun _ st => .ok (.r st.length) (st ++ [.dtt []])
def eDic0 : En → Sto → Rs Wv := eK (.dict [])
section
variable {M : Md} {X : Cx} {B : Tb} {k : Nat} {pins : List (Addr × Obj)} {σ : L2.St} {H : Hp} {s : Shared} {m : Mp} {env : En} {st : Sto} {W : WX}
  {a b : Expr} {ca cb cc : En → Sto → Rs Wv} {pos : Pos}
theorem PE.imp {e : Expr} {t t' : TE} (h : PE X e t) (q : ∀ σ H Q, t' σ H Q → t σ H Q) : PE X e t' := ⟨fun pins s σ H Q I x => h.run pins s σ H Q I (q σ H Q x)⟩
theorem PT.imp {e : Expr} {t t' : TT} (h : PT X e t) (q : ∀ σ H Q, t' σ H Q → t σ H Q) : PT X e t' := ⟨fun pins s σ H Q I x => h.run pins s σ H Q I (q σ H Q x)⟩
theorem PW.imp {e : Expr} {t t' : TT} (h : PW X e t) (q : ∀ σ H Q, t' σ H Q → t σ H Q) : PW X e t' := ⟨fun wh pins s σ H Q I x => h.run wh pins s σ H Q I (q σ H Q x)⟩
theorem PA.imp {e : List Expr} {t t' : TA} (h : PA X e t) (q : ∀ σ H Q, t' σ H Q → t σ H Q) : PA X e t' := ⟨fun pos pins s σ H Q I x => h.run pos pins s σ H Q I (q σ H Q x)⟩
theorem look1_post {w : Wv} {f : PyData → Rs Wv} {Q : Wv → Sto → Prop} {R : Xc → Sto → Prop} (h : (look1 w st f).post Q R) : ∃ d, look st w = some d ∧ (f d).post Q R := by
  unfold look1 at h
  split at h
  · exact ⟨_, by assumption, h⟩
  · exact h.elim
theorem ret1_post {r : Option PyData} {Q : Wv → Sto → Prop} {R : Xc → Sto → Prop} (h : (ret1 r st).post Q R) : ∃ d, r = some d ∧ Q (.d d) st := by
  unfold ret1 at h
  split at h
  · exact ⟨_, rfl, h⟩
  · exact h.elim
/-- an operation's end goes on -/
theorem okE.out {m1 : Mp} {H1 : Hp} {st1 : Sto} {n : Nat} {r : PyData} {Q : VK} (f : Fol m n H m1 st1.length H1) (S : Sim X.K H1 m1 st1) (q : okE X m n H Q (.d r) st1) : rOut X.K H1 (Off m1 st1.length) r Q := fun z H' g h =>
  q z H' m1 (f.trans (.same g)) (S.grow g) h
/-- two parts, then what is asked of both -/
theorem te_two (f : PyData → PyData → Option PyData) {Q : VK} (h : tE X W (eOp2 f ca cb) σ H Q) : tOp (rD X.K f) (tE X W ca) (tE X W cb) σ H Q := by
  obtain ⟨m, env, st, S, R, hp⟩ := h
  unfold eOp2 at hp
  rw [Rs.post_bind] at hp
  refine ⟨m, env, st, S, R, Rs.post_mono hp (fun w st1 q v H1 m1 f1 S1 r1 => ?_) fun _ _ q => q⟩
  rw [Rs.post_bind] at q
  refine ⟨m1, env, st1, S1, R.mv f1, Rs.post_mono q (fun w2 st2 q v2 H2 m2 f2 S2 r2 => ?_) fun _ _ q => okX.tr f1 q⟩
  obtain ⟨d, e1, q⟩ := look1_post q
  obtain ⟨e, e2, q⟩ := look1_post q
  obtain ⟨r, e3, q⟩ := ret1_post q
  exact ⟨_, d, e, r, fun a => S2.fresh, look_rt S2 (r1.mv f2) e1, look_rt S2 r2 e2, e3, okE.out (f1.trans f2) S2 q⟩
theorem te_one (f : PyData → Option PyData) {Q : VK} (h : tE X W (eOp1 f ca) σ H Q) : tUn (rU1 X.K f) (tE X W ca) σ H Q := by
  obtain ⟨m, env, st, S, R, hp⟩ := h
  unfold eOp1 at hp
  rw [Rs.post_bind] at hp
  refine ⟨m, env, st, S, R, Rs.post_mono hp (fun w st1 q v H1 m1 f1 S1 r1 => ?_) fun _ _ q => q⟩
  obtain ⟨d, e1, q⟩ := look1_post q
  obtain ⟨r, e3, q⟩ := ret1_post q
  exact ⟨_, d, r, fun a => S1.fresh, look_rt S1 r1 e1, e3, okE.out f1 S1 q⟩
theorem looks_rt {vs : List V} {ws : List Wv} {ds : List PyData} (S : Sim X.K H m st) (r : RWs X.K H m st.length vs ws) (e : looks ws st = some ds) : RTs X.K H (Off m st.length) vs ds := by
  induction r generalizing ds with
  | nil => cases e; exact .nil
  | cons r1 r2 ih =>
    unfold looks at e
    split at e
    · cases e
      exact .cons (look_rt S r1 (by assumption)) (ih (by assumption))
    · cases e
theorem te_all (f : List PyData → Option PyData) {cs : En → Sto → Rs (List Wv)} {Q : VK} (h : tE X W (eOpN f cs) σ H Q) : tCB (rN X.K f) (tA X W cs) σ H Q := by
  obtain ⟨m, env, st, S, R, hp⟩ := h
  unfold eOpN at hp
  rw [Rs.post_bind] at hp
  refine ⟨m, env, st, S, R, Rs.post_mono hp (fun ws st1 q vs H1 m1 f1 S1 r1 => ?_) fun _ _ q => q⟩
  split at q
  · obtain ⟨r, e3, q⟩ := ret1_post q
    exact ⟨_, _, r, fun a => S1.fresh, looks_rt S1 r1 (by assumption), e3, okE.out f1 S1 q⟩
  · exact q.elim
/-! ### argument lists, operators -/
theorem da_nil : DA X [] aNil := ⟨fun W tk => ⟨fun pos pins s σ H Q I ⟨m, env, st, S, R, hp⟩ => pa_nil.run pos pins s σ H Q I (hp [] H m .refl S .nil)⟩⟩
theorem da_cons {e : Expr} {es : List Expr} {cs : En → Sto → Rs (List Wv)} (ha : DE X e ca) (hr : DA X es cs) (hs : starEach (e :: es) X.env = (false, eval e X.env) :: starEach es X.env := by rfl) : DA X (e :: es) (aCons ca cs) := by
  refine ⟨fun W tk => PA.imp (pa_cons (ha.pe W tk) (hr.pa W tk) hs) fun σ H Q ⟨m, env, st, S, R, hp⟩ => ?_⟩
  unfold aCons at hp
  rw [Rs.post_bind] at hp
  refine ⟨m, env, st, S, R, Rs.post_mono hp (fun w st1 q v H1 m1 f1 S1 r1 => ?_) fun _ _ q => q⟩
  rw [Rs.post_bind] at q
  refine ⟨m1, env, st1, S1, R.mv f1, Rs.post_mono q (fun ws st2 q vs H2 m2 f2 S2 r2 => ?_) fun _ _ q => okX.tr f1 q⟩
  exact q (v :: vs) H2 m2 (f1.trans f2) S2 (.cons (r1.mv f2) r2)
theorem de_bin {op : Operator} {f : PyData → PyData → Option PyData} (ho : OpR X (binaryOp op) (rD X.K f)) (ha : DE X a ca) (hb : DE X b cb) : DE X (.BinOp a op b pos) (eOp2 f ca cb) :=
  ⟨fun W tk => PE.imp (pe_op ho (ha.pe W tk) (hb.pe W tk)) fun σ H Q => te_two f⟩
theorem de_un {op : UnaryOp} {f : PyData → Option PyData} (ho : UnR X (unaryOp op) (rU1 X.K f)) (ha : DE X a ca) : DE X (.UnaryOp op a pos) (eOp1 f ca) :=
  ⟨fun W tk => PE.imp (pe_un ho (ha.pe W tk)) fun σ H Q => te_one f⟩
theorem de_cmp {op : CmpOp} {f : PyData → PyData → Option PyData} (ho : OpR X (compareOp op) (rD X.K f)) (ha : DE X a ca) (hb : DE X b cb) (hm : behindInMarks op b = false) : DE X (.Compare a [op] [b] pos) (eOp2 f ca cb) :=
  ⟨fun W tk => PE.imp (pe_cmpR ho (ha.pe W tk) (hb.pe W tk) hm) fun σ H Q => te_two f⟩
/-- tests of bools -/
def tBl (c : En → Sto → Rs Wv) : En → Sto → Rs Bool := fun env st => (c env st).bind fun w st1 => match w with
  | .d (.bool b) => .ok b st1
  | _ => .no
theorem tt_of {Q : Bool → Hp → Prop} {c : En → Sto → Rs Wv} (h : tT X W (tBl c) σ H Q) : tE X W c σ H fun x H' => ∃ k, x = .bl k ∧ Q k H' := by
  obtain ⟨m, env, st, S, R, hp⟩ := h
  unfold tBl at hp
  rw [Rs.post_bind] at hp
  refine ⟨m, env, st, S, R, Rs.post_mono hp (fun w st1 q v H1 m1 f1 S1 r1 => ?_) fun _ _ q => q⟩
  split at q
  · cases r1
    exact ⟨_, rfl, q H1 m1 f1 S1⟩
  · exact q.elim
theorem dt_cmp {op : CmpOp} {f : PyData → PyData → Option PyData} (ho : OpR X (compareOp op) (rD X.K f)) (ha : DE X a ca) (hb : DE X b cb) (hm : behindInMarks op b = false) : DT X (.Compare a [op] [b] pos) (tBl (eOp2 f ca cb)) :=
  ⟨fun W tk => PT.imp (pt_cmpR ho (ha.pe W tk) (hb.pe W tk) hm) fun σ H Q h => te_two f (tt_of h)⟩
theorem te_chain {f g : PyData → PyData → Option PyData} {Q : VK} (h : tE X W (eChain f g ca cb cc) σ H Q) : tChain (rD X.K f) (rD X.K g) (tE X W ca) (tE X W cb) (tE X W cc) σ H Q := by
  obtain ⟨m, env, st, S, R, hp⟩ := h
  unfold eChain at hp
  rw [Rs.post_bind] at hp
  refine ⟨m, env, st, S, R, Rs.post_mono hp (fun w st1 q v H1 m1 f1 S1 r1 => ?_) fun _ _ q => q⟩
  rw [Rs.post_bind] at q
  refine ⟨m1, env, st1, S1, R.mv f1, Rs.post_mono q (fun w2 st2 q v2 H2 m2 f2 S2 r2 => ?_) fun _ _ q => okX.tr f1 q⟩
  obtain ⟨d, e1, q⟩ := look1_post q
  obtain ⟨e, e2, q⟩ := look1_post q
  split at q
  · rename_i e3
    refine ⟨_, d, e, _, fun a => S2.fresh, look_rt S2 (r1.mv f2) e1, look_rt S2 r2 e2, e3, fun z H' g0 h => ?_⟩
    cases h
    refine ⟨true, rfl, ?_⟩
    rw [if_pos rfl]
    have g2 : Fol m2 st2.length H2 m2 st2.length H' := .same g0
    rw [Rs.post_bind] at q
    refine ⟨m2, env, st2, S2.grow g0, (R.mv f1).mv (f2.trans g2), Rs.post_mono q (fun w3 st3 q v3 H3 m3 f3 S3 r3 => ?_) fun _ _ q => okX.tr (f1.trans (f2.trans g2)) q⟩
    obtain ⟨e', e4, q⟩ := look1_post q
    obtain ⟨y, e5, q⟩ := look1_post q
    obtain ⟨r, e6, q⟩ := ret1_post q
    exact ⟨_, e', y, r, fun a => S3.fresh, look_rt S3 ((r2.mv g2).mv f3) e4, look_rt S3 r3 e5, e6, okE.out ((f1.trans (f2.trans g2)).trans f3) S3 q⟩
  · rename_i e3
    refine ⟨_, d, e, _, fun a => S2.fresh, look_rt S2 (r1.mv f2) e1, look_rt S2 r2 e2, e3, fun z H' g0 h => ?_⟩
    cases h
    refine ⟨false, rfl, ?_⟩
    rw [if_neg Bool.false_ne_true]
    exact q _ _ m2 ((f1.trans f2).trans (.same g0)) (S2.grow g0) (.bl false)
  · exact q.elim
theorem de_chain {op op' : CmpOp} {f g : PyData → PyData → Option PyData} {c : Expr} (ho : OpR X (compareOp op) (rD X.K f)) (ho' : OpR X (compareOp op') (rD X.K g)) (ha : DE X a ca) (hb : DE X b cb) (hc : DE X c cc)
    (hm : lastMarks [op, op'] [b, c] = false := by with_unfolding_all rfl) : DE X (.Compare a [op, op'] [b, c] pos) (eChain f g ca cb cc) :=
  ⟨fun W tk => PE.imp (pe_chain ho ho' (ha.pe W tk) (hb.pe W tk) (hc.pe W tk) hm) fun σ H Q => te_chain⟩
theorem dt_chain {op op' : CmpOp} {f g : PyData → PyData → Option PyData} {c : Expr} (ho : OpR X (compareOp op) (rD X.K f)) (ho' : OpR X (compareOp op') (rD X.K g)) (ha : DE X a ca) (hb : DE X b cb) (hc : DE X c cc)
    (hm : lastMarks [op, op'] [b, c] = false := by with_unfolding_all rfl) : DT X (.Compare a [op, op'] [b, c] pos) (tBl (eChain f g ca cb cc)) :=
  ⟨fun W tk => PT.imp (pt_chain ho ho' (ha.pe W tk) (hb.pe W tk) (hc.pe W tk) hm) fun σ H Q h => te_chain (tt_of h)⟩
/-! ### truth, and, or, not -/
theorem truV_of {v : V} {d : PyData} {Z : Addr → Prop} (r : RT X.K H Z v d) (h : strOk d = true) : TruV X.K v H (truD d) := by
  cases d with
  | none => rw [r.non]; rfl
  | bool b => rw [r.bl]; rfl
  | int i => rw [r.int]; rfl
  | str x =>
    rw [r.str]
    refine ⟨Nat.le_trans (of_decide_eq_true h) line_lim, ?_⟩
    show (x.length != 0) = ((x.length : Int) != 0)
    cases x.length <;> rfl
  | list xs =>
    obtain ⟨a, vs, rfl, h1, h2⟩ := r.lst
    refine .inl ⟨vs, h1.sq, ?_⟩
    cases h2 <;> rfl
  | tuple xs =>
    obtain ⟨a, vs, rfl, h1, h2⟩ := r.tup
    refine .inr (.inl ⟨vs, h1, ?_⟩)
    cases h2 <;> rfl
  | dict es => cases h
theorem tru_post {w : Wv} {Q : Bool → Sto → Prop} {R : Xc → Sto → Prop} (h : (tru w st).post Q R) : ∃ d, look st w = some d ∧ strOk d = true ∧ Q (truD d) st := by
  unfold tru at h
  split at h
  · split at h
    · exact ⟨_, by assumption, by assumption, h⟩
    · exact h.elim
  · exact h.elim
theorem dt_val (ha : DE X a ca) (he : ∀ whole, isTrue a X.env whole = (do let v ← whole; standAt a.pos; holding [v] (truthy v)) := by intro _; rfl) : DT X a (tTru ca) := by
  refine ⟨fun W tk => PT.imp (pt_truth (ha.pe W tk) he) fun σ H Q ⟨m, env, st, S, R, hp⟩ => ?_⟩
  unfold tTru at hp
  rw [Rs.post_bind] at hp
  refine ⟨m, env, st, S, R, Rs.post_mono hp (fun w st1 q v H1 m1 f1 S1 r1 => ?_) fun _ _ q => q⟩
  obtain ⟨d, e1, e2, q⟩ := tru_post q
  exact ⟨_, truV_of (look_rt S1 r1 e1) e2, q H1 m1 f1 S1⟩
/-- a test whatever its 'whole' is -/
structure DW (X : Cx) (e : Expr) (c : En → Sto → Rs Bool) : Prop where
  pw : ∀ W, Takes X W → PW X e (tT X W c)
theorem DW.dt {e : Expr} {c : En → Sto → Rs Bool} (h : DW X e c) : DT X e c := ⟨fun W tk => (h.pw W tk).pt⟩
variable {ta tb : En → Sto → Rs Bool} {rest : List Expr}
theorem dw_and1 (ha : DT X a ta) : DW X (.BoolOp .And [a] pos) ta := ⟨fun W tk => pw_and1 (ha.pt W tk)⟩
theorem dw_or1 (ha : DT X a ta) : DW X (.BoolOp .Or [a] pos) ta := ⟨fun W tk => pw_or1 (ha.pt W tk)⟩
theorem dw_and (ha : DT X a ta) (hb : DW X (.BoolOp .And (b :: rest) pos) tb) : DW X (.BoolOp .And (a :: b :: rest) pos) (tAnd2 ta tb) := by
  refine ⟨fun W tk => PW.imp (pw_and (ha.pt W tk) (hb.pw W tk)) fun σ H Q ⟨m, env, st, S, R, hp⟩ => ?_⟩
  unfold tAnd2 at hp
  rw [Rs.post_bind] at hp
  refine ⟨m, env, st, S, R, Rs.post_mono hp (fun x st1 q H1 m1 f1 S1 => ?_) fun _ _ q => q⟩
  cases x with
  | true => exact ⟨m1, env, st1, S1, R.mv f1, Rs.post_mono q (fun y st2 q H2 m2 f2 S2 => q H2 m2 (f1.trans f2) S2) fun _ _ q => okX.tr f1 q⟩
  | false => exact q H1 m1 f1 S1
theorem dw_or (ha : DT X a ta) (hb : DW X (.BoolOp .Or (b :: rest) pos) tb) : DW X (.BoolOp .Or (a :: b :: rest) pos) (tOr2 ta tb) := by
  refine ⟨fun W tk => PW.imp (pw_or (ha.pt W tk) (hb.pw W tk)) fun σ H Q ⟨m, env, st, S, R, hp⟩ => ?_⟩
  unfold tOr2 at hp
  rw [Rs.post_bind] at hp
  refine ⟨m, env, st, S, R, Rs.post_mono hp (fun x st1 q H1 m1 f1 S1 => ?_) fun _ _ q => q⟩
  cases x with
  | false => exact ⟨m1, env, st1, S1, R.mv f1, Rs.post_mono q (fun y st2 q H2 m2 f2 S2 => q H2 m2 (f1.trans f2) S2) fun _ _ q => okX.tr f1 q⟩
  | true => exact q H1 m1 f1 S1
theorem dt_not (ha : DT X a ta) : DT X (.UnaryOp .Not a pos) (tNot1 ta) := by
  refine ⟨fun W tk => PT.imp (pt_not (ha.pt W tk)) fun σ H Q ⟨m, env, st, S, R, hp⟩ => ?_⟩
  unfold tNot1 at hp
  rw [Rs.post_bind] at hp
  exact ⟨m, env, st, S, R, Rs.post_mono hp (fun x st1 q H1 m1 f1 S1 => q H1 m1 f1 S1) fun _ _ q => q⟩
/-- as values -/
theorem de_one {op : BoolOp} (ha : DE X a ca) : DE X (.BoolOp op [a] pos) ca := ⟨fun W tk => pe_one (ha.pe W tk)⟩
theorem de_and (ha : DE X a ca) (hb : DE X (.BoolOp .And (b :: rest) pos) cb) : DE X (.BoolOp .And (a :: b :: rest) pos) (eAnd2 ca cb) := by
  refine ⟨fun W tk => PE.imp (pe_andT (ha.pe W tk) (hb.pe W tk)) fun σ H Q ⟨m, env, st, S, R, hp⟩ => ?_⟩
  unfold eAnd2 at hp
  rw [Rs.post_bind] at hp
  refine ⟨m, env, st, S, R, Rs.post_mono hp (fun w st1 q v H1 m1 f1 S1 r1 => ?_) fun _ _ q => q⟩
  rw [Rs.post_bind] at q
  obtain ⟨d, e1, e2, q⟩ := tru_post q
  refine ⟨_, truV_of (look_rt S1 r1 e1) e2, ?_⟩
  cases q2 : truD d with
  | true =>
    rw [q2, if_pos rfl] at q
    exact ⟨m1, env, st1, S1, R.mv f1, Rs.post_mono q (fun y st2 q v2 H2 m2 f2 S2 r2 => q v2 H2 m2 (f1.trans f2) S2 r2) fun _ _ q => okX.tr f1 q⟩
  | false =>
    rw [q2, if_neg Bool.false_ne_true] at q
    exact q v H1 m1 f1 S1 r1
theorem de_not (ha : DE X a ca) : DE X (.UnaryOp .Not a pos) (eNot1 ca) := by
  refine ⟨fun W tk => PE.imp (pe_notT (ha.pe W tk)) fun σ H Q ⟨m, env, st, S, R, hp⟩ => ?_⟩
  unfold eNot1 at hp
  rw [Rs.post_bind] at hp
  refine ⟨m, env, st, S, R, Rs.post_mono hp (fun w st1 q v H1 m1 f1 S1 r1 => ?_) fun _ _ q => q⟩
  rw [Rs.post_bind] at q
  obtain ⟨d, e1, e2, q⟩ := tru_post q
  exact ⟨_, truV_of (look_rt S1 r1 e1) e2, q _ H1 m1 f1 S1 (.bl _)⟩
theorem de_if {c : Expr} (hc : DT X c ta) (ha : DE X a ca) (hb : DE X b cb) : DE X (.IfExp c a b pos) (eIf ta ca cb) := by
  refine ⟨fun W tk => PE.imp (pe_ifExp (hc.pt W tk) (ha.pe W tk) (hb.pe W tk)) fun σ H Q ⟨m, env, st, S, R, hp⟩ => ?_⟩
  unfold eIf at hp
  rw [Rs.post_bind] at hp
  refine ⟨m, env, st, S, R, Rs.post_mono hp (fun x st1 q H1 m1 f1 S1 => ?_) fun _ _ q => q⟩
  cases x with
  | true => exact ⟨m1, env, st1, S1, R.mv f1, Rs.post_mono q (fun y st2 q v2 H2 m2 f2 S2 r2 => q v2 H2 m2 (f1.trans f2) S2 r2) fun _ _ q => okX.tr f1 q⟩
  | false => exact ⟨m1, env, st1, S1, R.mv f1, Rs.post_mono q (fun y st2 q v2 H2 m2 f2 S2 r2 => q v2 H2 m2 (f1.trans f2) S2 r2) fun _ _ q => okX.tr f1 q⟩
/-! ### displays -/
theorem allD_rp {vs : List V} {ws : List Wv} {ds : List PyData} (r : RWs X.K H m st.length vs ws) (e : allD ws = some ds) : RpA X.K H (Off m st.length) vs ds := by
  induction r generalizing ds with
  | nil => cases e; exact .nil
  | @cons v vs w ws r1 r2 ih =>
    cases w with
    | d x =>
      rw [allD_cons] at e
      cases q : allD ws with
      | none => rw [q] at e; cases e
      | some es =>
        rw [q] at e
        cases e
        exact .cons r1 (ih q)
    | r i => cases e
    | x a c d => cases e
theorem disp_post {f : List PyData → Rs Wv} {ws : List Wv} {Q : Wv → Sto → Prop} {R : Xc → Sto → Prop} (h : (match allD ws with | some ds => if ds.length ≤ 1000000 then f ds else .no | none => .no : Rs Wv).post Q R) :
    ∃ ds, allD ws = some ds ∧ ds.length ≤ 1000000 ∧ (f ds).post Q R := by
  split at h
  · split at h
    · exact ⟨_, by assumption, by assumption, h⟩
    · exact h.elim
  · exact h.elim
theorem de_tup {es : List Expr} {cs : En → Sto → Rs (List Wv)} {x1} (ha : DA X es cs) : DE X (.Tuple es x1 pos) (eTup cs) := by
  refine ⟨fun W tk => PE.imp (pe_tup (ha.pa W tk)) fun σ H Q ⟨m, env, st, S, R, hp⟩ => ?_⟩
  unfold eTup at hp
  rw [Rs.post_bind] at hp
  refine ⟨m, env, st, S, R, Rs.post_mono hp (fun ws st1 q vs H1 m1 f1 S1 r1 => ?_) fun _ _ q => q⟩
  obtain ⟨ds, e1, e2, q⟩ := disp_post (f := fun ds => .ok (.d (.tuple ds)) st1) q
  have ra := allD_rp r1 e1
  refine ⟨by rw [ra.len]; exact Nat.le_trans e2 line_lim, fun p hn => ?_⟩
  have g := grow_upd (o := .tup vs) hn
  exact q _ _ m1 (f1.trans (.same g)) (S1.grow g) (.tup (.inl upd_same) (ra.mv (Fol.same (m := m1) (n := st1.length) g).kp))
theorem de_lst {es : List Expr} {cs : En → Sto → Rs (List Wv)} (ha : DA X es cs) : DE X (.List es pos) (eLst cs) := by
  refine ⟨fun W tk => PE.imp (pe_lst (ha.pa W tk)) fun σ H Q ⟨m, env, st, S, R, hp⟩ => ?_⟩
  unfold eLst at hp
  rw [Rs.post_bind] at hp
  refine ⟨m, env, st, S, R, Rs.post_mono hp (fun ws st1 q vs H1 m1 f1 S1 r1 => ?_) fun _ _ q => q⟩
  obtain ⟨ds, e1, e2, q⟩ := disp_post (f := fun ds => .ok (.d (.list ds)) st1) q
  have ra := allD_rp r1 e1
  refine ⟨by rw [ra.len]; exact Nat.le_trans e2 line_lim, fun p hn => ?_⟩
  have g := grow_upd (o := .lst vs) hn
  exact q _ _ m1 (f1.trans (.same g)) (S1.grow g) (.lst (.inl ⟨upd_same, S1.fresh hn⟩) (ra.mv (Fol.same (m := m1) (n := st1.length) g).kp))
/-- a new object of the store -/
def mup (m : Mp) (n : Nat) (p : Addr) : Mp := ⟨fun i => if i = n then p else m.ix i, m.F⟩
theorem mup_old {n : Nat} {p : Addr} {i : Nat} (h : i < n) : (mup m n p).ix i = m.ix i := if_neg (by omega)
theorem mup_new {n : Nat} {p : Addr} : (mup m n p).ix n = p := if_pos rfl
theorem fol_new {n : Nat} {p : Addr} {o : HO} (hn : H p = none) : Fol m n H (mup m n p) (n + 1) (upd H p o) where
  tup a xs h := grow_upd hn a _ h
  frz a u x h := grow_upd hn a _ h
  rest a u _ h _ := grow_upd hn a _ h
  old i hi := mup_old hi
  new i h1 h2 := by
    have e : i = n := by omega
    rw [e, mup_new]
    exact nn_no hn
  le := Nat.le_succ n
  dom := domOf (grow_upd hn)
  eF _ _ := Iff.rfl
theorem Sim.new {K : Frg} {H : Hp} {m : Mp} {st : Sto} {p : Addr} {o : HO} {ob : Ob} (S : Sim K H m st) (hn : H p = none) (h : ObAt K (upd H p o) (mup m st.length p) (st.length + 1) p ob) : Sim K (upd H p o) (mup m st.length p) (st ++ [ob]) := by
  have f : Fol m st.length H (mup m st.length p) (st.length + 1) (upd H p o) := fol_new hn
  have hl : (st ++ [ob]).length = st.length + 1 := by simp
  refine ⟨fun i u e => ?_, fun i j hi hj e => ?_, fun a z => f.dom a (S.ff a z), fun i hi => ?_, S.tb.ext (grow_upd hn)⟩
  · rw [hl]
    by_cases q : i < st.length
    · rw [List.getElem?_append_left q] at e
      rw [mup_old q]
      exact (S.ob i u e).mv f fun x => grow_upd hn _ x
    · have e2 : i = st.length := by
        have := (List.getElem?_eq_some_iff.mp e).1
        rw [hl] at this
        omega
      subst e2
      simp at e
      subst e
      rw [mup_new]
      exact h
  · rw [hl] at hi hj
    have key : ∀ x, x < st.length → (mup m st.length p).ix x ≠ p := fun x hx z => by
      rw [mup_old hx] at z
      exact nn_no hn (z ▸ S.there hx)
    by_cases h1 : i < st.length
    · by_cases h2 : j < st.length
      · rw [mup_old h1, mup_old h2] at e
        exact S.inj i j h1 h2 e
      · have : j = st.length := by omega
        subst this
        rw [mup_new] at e
        exact absurd e (key i h1)
    · have : i = st.length := by omega
      subst this
      by_cases h2 : j < st.length
      · rw [mup_new] at e
        exact absurd e.symm (key j h2)
      · omega
  · rw [hl] at hi
    by_cases q : i < st.length
    · rw [mup_old q]; exact S.fi i q
    · have : i = st.length := by omega
      subst this
      rw [mup_new]
      exact fun z => nn_no hn (S.ff p z)
theorem de_newl {es : List Expr} {cs : En → Sto → Rs (List Wv)} (ha : DA X es cs) : DE X (.List es pos) (eNewL cs) := by
  refine ⟨fun W tk => PE.imp (pe_lst (ha.pa W tk)) fun σ H Q ⟨m, env, st, S, R, hp⟩ => ?_⟩
  unfold eNewL at hp
  rw [Rs.post_bind] at hp
  refine ⟨m, env, st, S, R, Rs.post_mono hp (fun ws st1 q vs H1 m1 f1 S1 r1 => ?_) fun _ _ q => q⟩
  obtain ⟨ds, e1, e2, q⟩ := disp_post (f := fun ds => .ok (.r st1.length) (st1 ++ [.lst ds])) q
  have ra := allD_rp r1 e1
  refine ⟨by rw [ra.len]; exact Nat.le_trans e2 line_lim, fun p hn => ?_⟩
  have f2 : Fol m1 st1.length H1 (mup m1 st1.length p) (st1.length + 1) (upd H1 p (.lst vs)) := fol_new hn
  have hl : (st1 ++ [Ob.lst ds]).length = st1.length + 1 := by simp
  refine q _ _ _ ?_ (S1.new hn ⟨vs, upd_same, ra.mv f2.kp⟩) ?_
  · rw [hl]; exact f1.trans f2
  · rw [hl]; exact ⟨Nat.lt_succ_self _, by rw [mup_new]⟩
/-- a dict is pinned as it stands -/
theorem Inv.freeze {pins : List (Addr × Obj)} {σ : L2.St} {H : Hp} {s : Shared} {a : Addr} {u : HO} (I : Inv X pins σ H s) (h : H a = some u) (hu : (∃ ks, u = .dK ks) ∨ ∃ ks, u = .dT ks) : ∃ o, Inv X pins σ (upd H a (.frz o u)) s := by
  have ok : ObjOk X.prog X.w H s.heap a u := I.hok a u h
  obtain ⟨o, ho⟩ : ∃ o, s.heap.get? a = some o := by
    rcases hu with ⟨ks, rfl⟩ | ⟨ks, rfl⟩
    · obtain ⟨_, _, _, _, o, _, _, ho, _⟩ := (show ObjOk X.prog X.w H s.heap a (.dK ks) from ok)
      exact ⟨o, ho⟩
    · obtain ⟨_, _, _, _, o, _, _, ho, _⟩ := (show ObjOk X.prog X.w H s.heap a (.dT ks) from ok)
      exact ⟨o, ho⟩
  refine ⟨o, I.write (t' := s.toks) (x := a) (e := a) (h' := s.heap) (by rw [h]; rcases hu with ⟨ks, rfl⟩ | ⟨ks, rfl⟩ <;> exact True.intro) (.inl rfl) (fun _ _ _ q => q) ⟨o, ho⟩ ⟨ho, ?_⟩⟩
  rcases hu with ⟨ks, rfl⟩ | ⟨ks, rfl⟩
  · exact ok
  · obtain ⟨h1, h2, xs, h3, h4⟩ := (show ObjOk X.prog X.w H s.heap a (.dT ks) from ok)
    refine ⟨h1, h2, xs, ?_, h4⟩
    refine Paired.mono (fun p q z => ⟨z.1, ?_, z.2.2⟩) h3
    rw [upd_ne (fun e => by rw [e, h] at z; exact nomatch Option.some.inj z.2.1)]
    exact z.2.1
theorem pe_freeze {e : Expr} {t : TE} (h : PE X e t) : PE X e (fun σ H Q => t σ H fun v H1 => (∃ a u, v = .ref a ∧ H1 a = some u ∧ ((∃ ks, u = .dK ks) ∨ ∃ ks, u = .dT ks) ∧ ∀ o, Q v (upd H1 a (.frz o u)))) := ⟨fun pins s σ H Q I q =>
  thn (h.run pins s σ H _ I q) fun u s1 ⟨v, H1, I1, rv, a, w, ev, ha, hw, q1⟩ => by
    obtain ⟨o, J⟩ := Inv.freeze I1 ha hw
    exact ⟨v, _, J, rv, q1 o⟩⟩
theorem de_dic0 : DE X (.Dict [] [] pos) eDic0 := by
  refine ⟨fun W tk => PE.imp (pe_freeze pe_dnewK) fun σ H Q ⟨m, env, st, S, R, hp⟩ => ?_⟩
  refine fun p hn => ⟨p, .dK [], rfl, upd_same, .inl ⟨_, rfl⟩, fun o => ?_⟩
  have g := grow_upd (o := .frz o (.dK [])) hn
  rw [show upd (upd H p (.dK [])) p (.frz o (.dK [])) = upd H p (.frz o (.dK [])) from by funext b; by_cases z : b = p <;> simp [upd, z]]
  exact hp _ _ m (.same g) (S.grow g) (.dic upd_same .nil)
end
end
section
variable [Wtp] [Tbl]
section
variable {X : Cx} {pins : List (Addr × Obj)} {σ : L2.St} {H : Hp} {s : Shared}
/-! ## arithmetic -/
def bigOk (i j : Int) : Bool := decide (i.natAbs < 18446744073709551616) || decide (j.natAbs < 18446744073709551616)
def addD : PyData → PyData → Option PyData
  | .int i, .int j => some (.int (i + j))
  | .str x, .str y => if x.length + y.length ≤ 1000000 then some (.str (x ++ y)) else none
  | .tuple xs, .tuple ys => if xs.length + ys.length ≤ 1000000 then some (.tuple (xs ++ ys)) else none
  | .list xs, .list ys => if xs.length + ys.length ≤ 1000000 then some (.list (xs ++ ys)) else none
  | _, _ => none
def subD : PyData → PyData → Option PyData
  | .int i, .int j => some (.int (i - j))
  | _, _ => none
def mulD : PyData → PyData → Option PyData
  | .int i, .int j => if bigOk i j then some (.int (i * j)) else none
  | .tuple xs, .int k => if k = 1 then some (.tuple xs) else if 2 ≤ k ∧ k ≤ 1000 ∧ xs.length ≤ 1000 ∧ xs ≠ [] then some (.tuple (List.replicate k.toNat xs).flatten) else if xs = [] ∧ 0 ≤ k ∧ k ≤ 1000 then some (.tuple []) else none
  | .list xs, .int k => if 0 ≤ k ∧ k ≤ 1000 ∧ xs.length ≤ 1000 then some (.list (List.replicate k.toNat xs).flatten) else none
  | _, _ => none
def divD : PyData → PyData → Option PyData
  | .int i, .int j => if 0 < j ∧ j < 1073741824 then some (.int (i / j)) else if 0 < j ∧ j < 1606938044258990275541962092341162602522202993782792835301376 then some (.int (i / j)) else none
  | _, _ => none
def modD : PyData → PyData → Option PyData
  | .int i, .int j => if 0 < j then some (.int (i % j)) else none
  | _, _ => none
def powD : PyData → PyData → Option PyData
  | .int i, .int j => if 0 ≤ j ∧ j ≤ 1000 ∧ i.natAbs < 18446744073709551616 then some (.int (i ^ j.toNat)) else none
  | _, _ => none
def negD : PyData → Option PyData
  | .int i => some (.int (-i))
  | _ => none
theorem rout_here {Z : Addr → Prop} {r : PyData} {Q : VK} {v : V} (h : rOut X.K H Z r Q) (q : Rp X.K H Z v r) : Q v H := h v H (fun _ _ e => e) q
theorem rout_lst {Z : Addr → Prop} {ds : List PyData} {vs : List V} {Q : VK} (hz : ∀ a, H a = none → Z a) (h : rOut X.K H Z (.list ds) Q) (q : RpA X.K H Z vs ds) : ∀ p, H p = none → Q (.ref p) (upd H p (.lst vs)) := fun p hn =>
  h _ _ (grow_upd hn) (.lst (.inl ⟨upd_same, hz p hn⟩) (q.mv ⟨fun a xs e => grow_upd hn a _ e, fun a o u e => grow_upd hn a _ e, fun a o _ e z => ⟨grow_upd hn a _ e, z⟩⟩))
theorem rout_tup {Z : Addr → Prop} {ds : List PyData} {vs : List V} {Q : VK} (h : rOut X.K H Z (.tuple ds) Q) (q : RpA X.K H Z vs ds) : ∀ p, H p = none → Q (.ref p) (upd H p (.tup vs)) := fun p hn =>
  h _ _ (grow_upd hn) (.tup (.inl upd_same) (q.mv ⟨fun a xs e => grow_upd hn a _ e, fun a o u e => grow_upd hn a _ e, fun a o _ e z => ⟨grow_upd hn a _ e, z⟩⟩))
/-- list + list, whoever holds them -/
theorem op_catP : OpR X (binaryOp .Add) (fun x y H Q => ∃ l b xs zs, x = .ref l ∧ y = .ref b ∧ LsX X.K H l xs ∧ LsX X.K H b zs ∧ xs.length + zs.length ≤ sizeLine ∧ ∀ p, H p = none → Q (.ref p) (upd H p (.lst (xs ++ zs)))) := by
  intro pins s σ H x y v u Q I rx ry h
  obtain ⟨l, b, xs, zs, rfl, rfl, hH, hB, hz, q⟩ := h
  cases rx
  cases ry
  obtain ⟨its, n, r, e, _, l1⟩ := Inv.lsx I hH
  obtain ⟨its2, n2, r2, e2, _, l2⟩ := Inv.lsx I hB
  refine PySem.P.add_list e e2 ?_ (by rw [List.size_toArray, List.size_toArray]; omega)
  have ea : its.toArray ++ its2.toArray = (its ++ its2).toArray := by simp
  rw [ea]
  exact ⟨.ref _, _, I.lnew (t' := s.toks) (r.append r2) (by rw [List.length_append]; omega), rfl, q _ I.fresh⟩
theorem o_add : OpR X (binaryOp .Add) (rD X.K addD) := by
  intro pins s σ H x y v u Q I rx ry ⟨Z, d, e, r, hz, hd, he, hf, ho⟩
  unfold addD at hf
  split at hf
  · cases hf
    exact op_add pins s σ H x y v u Q I rx ry ⟨_, _, hd.int, he.int, rout_here ho (.int _)⟩
  · split at hf
    · cases hf
      exact op_add_str pins s σ H x y v u Q I rx ry ⟨_, _, hd.str, he.str, Nat.le_trans (by assumption) line_lim, rout_here ho (.str _)⟩
    · cases hf
  · split at hf
    · cases hf
      obtain ⟨a, vs, rfl, h1, h2⟩ := hd.tupT
      obtain ⟨b, ws, rfl, k1, k2⟩ := he.tupT
      have l1 := h2.len
      have l2 := k2.len
      refine op_catA pins s σ H _ _ v u Q I rx ry ⟨a, b, vs, ws, rfl, rfl, h1.sq, k1.sq, Nat.le_trans (by omega) line_lim, fun e => ?_, fun e1 e => ?_, fun _ _ => rout_tup ho (h2.app k2)⟩
      · subst e
        cases h2
        exact rout_here ho (.tup k1 k2)
      · subst e
        cases k2
        rw [List.append_nil] at ho
        exact rout_here ho (.tup h1 h2)
    · cases hf
  · split at hf
    · cases hf
      obtain ⟨a, vs, rfl, h1, h2⟩ := hd.lst
      obtain ⟨b, ws, rfl, k1, k2⟩ := he.lst
      have l1 := h2.len
      have l2 := k2.len
      exact op_catP pins s σ H _ _ v u Q I rx ry ⟨a, b, vs, ws, rfl, rfl, h1, k1, Nat.le_trans (by omega) line_lim, rout_lst hz ho (h2.app k2)⟩
    · cases hf
  · cases hf
theorem o_sub : OpR X (binaryOp .Sub) (rD X.K subD) := by
  intro pins s σ H x y v u Q I rx ry ⟨Z, d, e, r, hz, hd, he, hf, ho⟩
  unfold subD at hf
  split at hf
  · cases hf
    exact op_sub pins s σ H x y v u Q I rx ry ⟨_, _, hd.int, he.int, rout_here ho (.int _)⟩
  · cases hf
theorem cmul_of {i j : Int} (h : bigOk i j = true) : CMul i j := by
  unfold bigOk at h
  rw [Bool.or_eq_true, decide_eq_true_eq, decide_eq_true_eq] at h
  rcases h with h | h
  · exact .inl ⟨by omega, by omega⟩
  · exact .inr ⟨by omega, by omega⟩
theorem RpA.rep {K : Frg} {H : Hp} {Z : Addr → Prop} {vs : List V} {ds : List PyData} (h : RpA K H Z vs ds) : ∀ n : Nat, RpA K H Z (List.replicate n vs).flatten (List.replicate n ds).flatten
  | 0 => .nil
  | n + 1 => by
    rw [List.replicate_succ, List.replicate_succ, List.flatten_cons, List.flatten_cons]
    exact h.app (RpA.rep h n)
/-- list * int, whoever holds it -/
theorem op_repP : OpR X (binaryOp .Mult) (fun x y H Q => ∃ l k xs, x = .ref l ∧ y = .int k ∧ LsX X.K H l xs ∧ 0 ≤ k ∧ k ≤ 1000 ∧ xs.length ≤ 1000 ∧ ∀ p, H p = none → Q (.ref p) (upd H p (.lst (List.replicate k.toNat xs).flatten))) := by
  intro pins s σ H x y v u Q I rx ry h
  obtain ⟨l, k, xs, rfl, rfl, hH, h1, h2, hl, q⟩ := h
  cases rx
  obtain ⟨t, rfl⟩ := ry
  obtain ⟨its, n, r, e, _, l1⟩ := Inv.lsx I hH
  have line := line_lim
  have small : its.toArray.size * k.toNat ≤ 1000000 := by
    rw [List.size_toArray]
    exact Nat.le_trans (Nat.mul_le_mul (show its.length ≤ 1000 by omega) (show k.toNat ≤ 1000 by omega)) (by decide)
  have c1 : ¬ its.toArray.size * k.toNat > (2 ^ 63 - 1) / 8 := by omega
  have c2 : ¬ (!Builtin.List.listFitsIndex k) = true := by
    rw [fitsIndex_both (by omega) (by omega)]
    exact Bool.false_ne_true
  have c3 : ¬ Builtin.List.listTooLong (its.toArray.size * k.toNat) = true := by
    rw [notLongL (by omega)]
    exact Bool.false_ne_true
  have made : List.foldl (fun a b => a ++ b) #[] (List.replicate (if its.toArray.isEmpty = true then 0 else k.toNat) its.toArray) = (List.replicate k.toNat its).flatten.toArray := by
    rw [size_rep]
    cases its with
    | nil => simp
    | cons a r' => rw [if_neg (by simp)]
  have big : (List.replicate k.toNat xs).flatten.length ≤ sizeLine := by
    rw [PyProof.Rows.lm_len_rep_flat]
    exact Nat.le_trans (Nat.mul_le_mul (show k.toNat ≤ 1000 by omega) hl) (Nat.le_trans (by decide) line)
  refine wpAny_binaryOp_repeat_ref (T := "list") (U := "int") (by decide) ⟨_, e, rfl⟩ (fun s' => typeIs_int s' k t) noFill_list_mul F.fills_int_mul F.slot_int_rmul repeat_list F.slot_int_index.lookup ?_
  refine call_meets F.slot_int_rmul (typeIs_int s k t) F.entry_int_rmul (F.args_int_rmul_2 _ _) (int___rmul___int_list k t l its.toArray n) ⟨e, rfl, ⟨_, e, rfl⟩, ?_⟩
  refine call_meets F.slot_list_mul ⟨_, e, rfl⟩ F.entry_list_mul (F.args_list_mul_2 _ _) (AutoListH.list___mul___list_int_3 l its.toArray n k t c2 c1 c3) ⟨e, ?_⟩
  rw [made]
  exact ⟨.ref _, _, I.lnew (t' := s.toks) (r.rep k.toNat) big, rfl, q _ I.fresh⟩
theorem tuple_mulS (l : Addr) (items : Array Value) (n : Nat) (dd : Option Addr) (sl : Array (Option Value)) (x : Int) (u : Tok) (c0 : (decide (x < -(2 ^ 63)) || decide (x ≥ 2 ^ 63)) = false) (c1 : (items.isEmpty || x == 1) = true) :
    Meets (Builtin.«tuple.__mul__» ⟨[.ref l, .int x u], []⟩) (fun _ R s => s.heap.get? l = some { cls := .type "tuple", dict := dd, data := .seq items n, slots := sl } ∧ R (.ok (.ret (Value.ref l))) s) :=
  .of_wp fun prog w A R s h => by
    obtain ⟨hp, g, d, tk, os⟩ := s
    obtain ⟨hl, h⟩ := h
    have f1 := AutoSeq1.idx_int
    wp_walk using wpAny_loadPart' hl
    repeat (first
      | (refine wpAny_ite_false (decide_eq_false (by rw [c0]; exact Bool.false_ne_true)) ?_; wp_walk using wpAny_loadPart' hl)
      | (refine wpAny_ite_false (decide_eq_false (by decide)) ?_; wp_walk using wpAny_loadPart' hl)
      | (refine wpAny_ite_true c1 ?_; wp_walk using wpAny_loadPart' hl))
    exact ⟨_, rfl, h⟩
theorem op_repT1 : OpR X (binaryOp .Mult) (fun x y H Q => ∃ l k xs, x = .ref l ∧ y = .int k ∧ SqT X.K H l xs ∧ (k = 1 ∨ xs = []) ∧ 0 ≤ k ∧ k ≤ 1000 ∧ Q (.ref l) H) := by
  intro pins s σ H x y v u Q I rx ry h
  obtain ⟨l, k, xs, rfl, rfl, hT, hk, k0, k1, q⟩ := h
  cases rx
  obtain ⟨t, rfl⟩ := ry
  obtain ⟨its, r, ⟨⟨cls, dd, data, sl⟩, ho, hc, n, hd⟩, hs⟩ := I.tuple hT
  simp only at hc hd
  subst hc hd
  have c1 : (its.toArray.isEmpty || k == 1) = true := by
    rcases hk with rfl | rfl
    · simp
    · cases r
      simp
  have c0 : (decide (k < -(2 ^ 63)) || decide (k ≥ 2 ^ 63)) = false := by
    rw [Bool.or_eq_false_iff]
    exact ⟨decide_eq_false (by omega), decide_eq_false (by omega)⟩
  refine wpAny_binaryOp_repeat_ref (T := "tuple") (U := "int") (by decide) ⟨_, ho, rfl⟩ (fun s' => typeIs_int s' k t) noFill_tuple_mul F.fills_int_mul F.slot_int_rmul repeat_tuple F.slot_int_index.lookup
    (call_meets F.slot_int_rmul (typeIs_int s k t) F.entry_int_rmul (F.args_int_rmul_2 _ _) (int_rmul_tuple k t l its.toArray n dd sl)
      ⟨ho, rfl, ⟨_, ho, rfl⟩, call_meets F.slot_tuple_mul ⟨_, ho, rfl⟩ F.entry_tuple_mul (F.args_tuple_mul_2 _ _) (tuple_mulS l its.toArray n dd sl k t c0 c1) ⟨ho, ?_⟩⟩)
  exact ⟨.ref l, H, I, rfl, q⟩
theorem o_mul : OpR X (binaryOp .Mult) (rD X.K mulD) := by
  intro pins s σ H x y v u Q I rx ry ⟨Z, d, e, r, hz, hd, he, hf, ho⟩
  unfold mulD at hf
  split at hf
  · split at hf
    · cases hf
      exact op_mul pins s σ H x y v u Q I rx ry ⟨_, _, hd.int, he.int, cmul_of (by assumption), rout_here ho (.int _)⟩
    · cases hf
  · split at hf
    · rename_i h
      cases hf
      subst h
      have ey := he.int
      subst ey
      obtain ⟨a, vs, rfl, h1, h2⟩ := hd.tupT
      exact op_repT1 pins s σ H _ _ v u Q I rx ry ⟨a, 1, vs, rfl, rfl, h1.sq, .inl rfl, by decide, by decide, rout_here ho (.tup h1 h2)⟩
    rename_i hk1
    split at hf
    · rename_i h
      cases hf
      obtain ⟨a, vs, rfl, h1, h2⟩ := hd.tup
      have l1 := h2.len
      refine op_repT pins s σ H _ _ v u Q I rx ry ⟨a, _, vs, rfl, he.int, h1, fun e => ?_, h.1, h.2.1, by omega, rout_tup ho (h2.rep _)⟩
      subst e
      cases h2
      exact h.2.2.2 rfl
    rename_i hk2
    split at hf
    · rename_i h
      cases hf
      have ey := he.int
      subst ey
      obtain ⟨rfl, h0, h9⟩ := h
      obtain ⟨a, vs, rfl, h1, h2⟩ := hd.tupT
      have ev : vs = [] := by cases h2; rfl
      exact op_repT1 pins s σ H _ _ v u Q I rx ry ⟨a, _, vs, rfl, rfl, h1.sq, .inr ev, h0, h9, rout_here ho (.tup h1 h2)⟩
    · cases hf
  · split at hf
    · rename_i h
      cases hf
      obtain ⟨a, vs, rfl, h1, h2⟩ := hd.lst
      have l1 := h2.len
      exact op_repP pins s σ H _ _ v u Q I rx ry ⟨a, _, vs, rfl, he.int, h1, h.1, h.2.1, by omega, rout_lst hz ho (h2.rep _)⟩
    · cases hf
  · cases hf
theorem op_fdivW : OpR X (binaryOp .FloorDiv) (rI (fun _ j => 0 < j ∧ j < 1606938044258990275541962092341162602522202993782792835301376) fun i j => .int (i / j)) := opI fun i j _ _ _ _ _ hc q => by
  have h1 : (0 : Int) < j := hc.1
  have h2 : j < 1606938044258990275541962092341162602522202993782792835301376 := hc.2
  have h3 : j.natAbs.log2 < 9000 := Nat.lt_of_lt_of_le ((Nat.log2_lt (by omega)).mpr (show j.natAbs < 2 ^ 200 by omega)) (by decide)
  exact floordiv_int (by omega) (by rw [Int.fdiv_eq_ediv_of_nonneg i (by omega)]; exact q) (.inl (PyProof.noPylong_of_log2 h3))
theorem o_div : OpR X (binaryOp .FloorDiv) (rD X.K divD) := by
  intro pins s σ H x y v u Q I rx ry ⟨Z, d, e, r, hz, hd, he, hf, ho⟩
  unfold divD at hf
  split at hf
  · split at hf
    · cases hf
      exact op_fdiv pins s σ H x y v u Q I rx ry ⟨_, _, hd.int, he.int, by assumption, rout_here ho (.int _)⟩
    · split at hf
      · cases hf
        exact op_fdivW pins s σ H x y v u Q I rx ry ⟨_, _, hd.int, he.int, by assumption, rout_here ho (.int _)⟩
      · cases hf
  · cases hf
theorem divD_ok {i j : Int} (h : 0 < j) (h2 : j < 1606938044258990275541962092341162602522202993782792835301376) : divD (.int i) (.int j) = some (.int (i / j)) := by
  show (if 0 < j ∧ j < 1073741824 then some (PyData.int (i / j)) else if 0 < j ∧ j < 1606938044258990275541962092341162602522202993782792835301376 then some (.int (i / j)) else none) = _
  by_cases q : j < 1073741824
  · rw [if_pos ⟨h, q⟩]
  · rw [if_neg (fun z => q z.2), if_pos ⟨h, h2⟩]
theorem o_mod : OpR X (binaryOp .Mod) (rD X.K modD) := by
  intro pins s σ H x y v u Q I rx ry ⟨Z, d, e, r, hz, hd, he, hf, ho⟩
  unfold modD at hf
  split at hf
  · split at hf
    · cases hf
      exact op_mod pins s σ H x y v u Q I rx ry ⟨_, _, hd.int, he.int, by assumption, rout_here ho (.int _)⟩
    · cases hf
  · cases hf
theorem o_pow : OpR X (binaryOp .Pow) (rD X.K powD) := by
  intro pins s σ H x y v u Q I rx ry ⟨Z, d, e, r, hz, hd, he, hf, ho⟩
  unfold powD at hf
  split at hf
  · split at hf
    · rename_i h
      cases hf
      exact op_pow pins s σ H x y v u Q I rx ry ⟨_, _, hd.int, he.int, ⟨h.1, by omega, by have := h.2.2; omega⟩, rout_here ho (.int _)⟩
    · cases hf
  · cases hf
theorem o_neg : UnR X (unaryOp .USub) (rU1 X.K negD) := by
  intro pins s σ H x v Q I rx ⟨Z, d, r, hz, hd, hf, ho⟩
  unfold negD at hf
  split at hf
  · cases hf
    exact un_neg pins s σ H x v Q I rx ⟨_, hd.int, rout_here ho (.int _)⟩
  · cases hf
end
end
section
variable [Wtp] [Tbl]
section
variable {X : Cx} {pins : List (Addr × Obj)} {σ : L2.St} {H : Hp} {s : Shared}
/-! ## comparisons -/
def cmpOk (a b : PyData) : Bool := a.plain && (b.plain && decide (min a.depth b.depth ≤ 40))
def eqD (a b : PyData) : Option PyData := if cmpOk a b then some (.bool (PyData.eqv a b)) else none
def neD (a b : PyData) : Option PyData := if cmpOk a b then some (.bool (!PyData.eqv a b)) else none
def isNone : PyData → Bool
  | .none => true
  | _ => false
def ltD' (a b : PyData) : Bool := PySem.W.alike a b && (!isNone a && decide (min a.depth b.depth ≤ 40))
def ltD : PyData → PyData → Option PyData
  | .int i, .int j => some (.bool (decide (i < j)))
  | a, b => if ltD' a b then some (.bool (PySem.W.dataLt a b)) else none
def gtD : PyData → PyData → Option PyData
  | .int i, .int j => some (.bool (decide (j < i)))
  | a, b => if ltD' a b then some (.bool (PySem.W.dataLt b a)) else none
def leD : PyData → PyData → Option PyData
  | .int i, .int j => some (.bool (decide (i ≤ j)))
  | a, b => if ltD' a b then some (.bool (!PySem.W.dataLt b a)) else none
def geD : PyData → PyData → Option PyData
  | .int i, .int j => some (.bool (decide (j ≤ i)))
  | a, b => if ltD' a b then some (.bool (!PySem.W.dataLt a b)) else none
def isND (a b : PyData) : Option PyData := if isNone b then some (.bool (isNone a)) else none
def ntND (a b : PyData) : Option PyData := if isNone b then some (.bool (!isNone a)) else none
theorem rout_bl {Z : Addr → Prop} {b : Bool} {Q : VK} {I : Inv X pins σ H s} (h : rOut X.K H Z (.bool b) Q) : EP X pins σ Q (.bool b) s := ⟨.bl b, H, I, rfl, rout_here h (.bl b)⟩
theorem room_eq {k n : Nat} {A : Around} (hr : L2H.RoomH k A) (h : n ≤ 60) : A.units + n < cLine := by have := hr.un; omega
theorem o_eq {k : Nat} (hr : L2H.RoomH k X.A) : OpR X (compareOp .Eq) (rD X.K eqD) := by
  intro pins s σ H x y v u Q I rx ry ⟨Z, d, e, r, hz, hd, he, hf, ho⟩
  unfold eqD at hf
  split at hf
  · rename_i h
    cases hf
    unfold cmpOk at h
    simp only [Bool.and_eq_true, decide_eq_true_eq] at h
    obtain ⟨as, r1⟩ := Inv.rt I hd rx
    obtain ⟨bs, r2⟩ := Inv.rt I he ry
    exact PySem.SeqAt.eq_plain r1 r2 h.1 h.2.1 (room_eq hr (by omega)) (rout_bl (I := I) ho)
  · cases hf
theorem o_ne {k : Nat} (hr : L2H.RoomH k X.A) : OpR X (compareOp .NotEq) (rD X.K neD) := by
  intro pins s σ H x y v u Q I rx ry ⟨Z, d, e, r, hz, hd, he, hf, ho⟩
  unfold neD at hf
  split at hf
  · rename_i h
    cases hf
    unfold cmpOk at h
    simp only [Bool.and_eq_true, decide_eq_true_eq] at h
    obtain ⟨as, r1⟩ := Inv.rt I hd rx
    obtain ⟨bs, r2⟩ := Inv.rt I he ry
    exact PySem.SeqAt.ne_plain r1 r2 h.1 h.2.1 (room_eq hr (by omega)) (rout_bl (I := I) ho)
  · cases hf
theorem ltD_of {a b : PyData} (h : ltD' a b = true) : PySem.W.alike a b = true ∧ a ≠ .none ∧ min a.depth b.depth ≤ 40 := by
  unfold ltD' at h
  simp only [Bool.and_eq_true, decide_eq_true_eq, Bool.not_eq_true'] at h
  refine ⟨h.1, fun e => ?_, h.2.2⟩
  subst e
  exact absurd h.2.1 (by decide)
theorem o_lt {k : Nat} (hr : L2H.RoomH k X.A) : OpR X (compareOp .Lt) (rD X.K ltD) := by
  intro pins s σ H x y v u Q I rx ry ⟨Z, d, e, r, hz, hd, he, hf, ho⟩
  unfold ltD at hf
  split at hf
  · cases hf
    exact op_lt pins s σ H x y v u Q I rx ry ⟨_, _, hd.int, he.int, rout_here ho (.bl _)⟩
  · split at hf
    · rename_i h
      cases hf
      obtain ⟨h1, h2, h3⟩ := ltD_of h
      obtain ⟨as, r1⟩ := Inv.rt I hd rx
      obtain ⟨bs, r2⟩ := Inv.rt I he ry
      exact PySem.W.lt_data r1 r2 h1 h2 (room_eq hr (by omega)) (rout_bl (I := I) ho)
    · cases hf
theorem o_gt {k : Nat} (hr : L2H.RoomH k X.A) : OpR X (compareOp .Gt) (rD X.K gtD) := by
  intro pins s σ H x y v u Q I rx ry ⟨Z, d, e, r, hz, hd, he, hf, ho⟩
  unfold gtD at hf
  split at hf
  · cases hf
    exact op_gt pins s σ H x y v u Q I rx ry ⟨_, _, hd.int, he.int, rout_here ho (.bl _)⟩
  · split at hf
    · rename_i h
      cases hf
      obtain ⟨h1, h2, h3⟩ := ltD_of h
      obtain ⟨as, r1⟩ := Inv.rt I hd rx
      obtain ⟨bs, r2⟩ := Inv.rt I he ry
      exact PySem.W.gt_data r1 r2 h1 h2 (room_eq hr (by omega)) (rout_bl (I := I) ho)
    · cases hf
theorem o_le {k : Nat} (hr : L2H.RoomH k X.A) : OpR X (compareOp .LtE) (rD X.K leD) := by
  intro pins s σ H x y v u Q I rx ry ⟨Z, d, e, r, hz, hd, he, hf, ho⟩
  unfold leD at hf
  split at hf
  · cases hf
    exact op_le pins s σ H x y v u Q I rx ry ⟨_, _, hd.int, he.int, rout_here ho (.bl _)⟩
  · split at hf
    · rename_i h
      cases hf
      obtain ⟨h1, h2, h3⟩ := ltD_of h
      obtain ⟨as, r1⟩ := Inv.rt I hd rx
      obtain ⟨bs, r2⟩ := Inv.rt I he ry
      exact PySem.W.le_data r1 r2 h1 h2 (room_eq hr (by omega)) (rout_bl (I := I) ho)
    · cases hf
theorem o_ge {k : Nat} (hr : L2H.RoomH k X.A) : OpR X (compareOp .GtE) (rD X.K geD) := by
  intro pins s σ H x y v u Q I rx ry ⟨Z, d, e, r, hz, hd, he, hf, ho⟩
  unfold geD at hf
  split at hf
  · cases hf
    exact op_ge pins s σ H x y v u Q I rx ry ⟨_, _, hd.int, he.int, rout_here ho (.bl _)⟩
  · split at hf
    · rename_i h
      cases hf
      obtain ⟨h1, h2, h3⟩ := ltD_of h
      obtain ⟨as, r1⟩ := Inv.rt I hd rx
      obtain ⟨bs, r2⟩ := Inv.rt I he ry
      exact PySem.W.ge_data r1 r2 h1 h2 (room_eq hr (by omega)) (rout_bl (I := I) ho)
    · cases hf
theorem isNone_v {Z : Addr → Prop} {x : V} {d : PyData} (h : RT X.K H Z x d) : decide (x = .non) = isNone d := by
  cases d with
  | none => rw [h.non]; rfl
  | bool b => rw [h.bl]; rfl
  | int i => rw [h.int]; rfl
  | str x => rw [h.str]; rfl
  | list xs => obtain ⟨a, vs, rfl, _⟩ := h.lst; rfl
  | tuple xs => obtain ⟨a, vs, rfl, _⟩ := h.tup; rfl
  | dict xs => obtain ⟨a, rfl, _⟩ := h.dic; rfl
theorem o_isN : OpR X (compareOp .Is) (rD X.K isND) := by
  intro pins s σ H x y v u Q I rx ry ⟨Z, d, e, r, hz, hd, he, hf, ho⟩
  unfold isND at hf
  split at hf
  · rename_i h
    cases hf
    have h2 := isNone_v he
    rw [h, decide_eq_true_eq] at h2
    exact op_isN pins s σ H x y v u Q I rx ry ⟨h2, by rw [isNone_v hd]; exact rout_here ho (.bl _)⟩
  · cases hf
/-! ## in, not in -/
def inOk (d : PyData) (xs : List PyData) : Bool := d.plain && (PyData.plainAll xs && decide (min (PyData.depthAll xs) d.depth ≤ 40))
def hasKey (es : List (PyData × PyData)) (k : Key) : Bool := es.any fun e => decide (keyD e.1 = some k)
def kindK : List (PyData × PyData) → Bool
  | [] => true
  | (c, _) :: _ => (keyD c).isSome
def kindT : List (PyData × PyData) → Bool
  | [] => true
  | (c, _) :: _ => (tkD c).isSome
/-- a look-up of a tuple -/
def dLookT (es : List (PyData × PyData)) (k : List Key) : Option PyData := (es.find? fun e => decide (tkD e.1 = some k)).map (·.2)
def inB (d : PyData) : PyData → Option Bool
  | .list xs => if inOk d xs then some (xs.any fun y => PyData.eqv y d) else none
  | .tuple xs => if inOk d xs then some (xs.any fun y => PyData.eqv y d) else none
  | .dict es => match keyD d with
    | some k => if kindK es = true then some (hasKey es k) else none
    | none => match tkD d with
      | some ks => if kindT es = true then some (dLookT es ks).isSome else none
      | none => none
  | .str z => match d with
    | .str x => some (!(Builtin.Str.occurrences z x 0 z.length 1).isEmpty)
    | _ => none
  | _ => none
def inD (d c : PyData) : Option PyData := (inB d c).map .bool
def niD (d c : PyData) : Option PyData := (inB d c).map fun b => .bool (!b)
theorem inOk_of {d : PyData} {xs : List PyData} (h : inOk d xs = true) : d.plain = true ∧ PyData.plainAll xs = true ∧ min (PyData.depthAll xs) d.depth ≤ 40 := by
  unfold inOk at h
  simp only [Bool.and_eq_true, decide_eq_true_eq] at h
  exact ⟨h.1, h.2.1, h.2.2⟩
theorem keyD_v {Z : Addr → Prop} {x : V} {d : PyData} {k : Key} (h : RT X.K H Z x d) (e : keyD d = some k) : x = kV k := by
  cases d with
  | int i => cases e; exact h.int
  | str y => cases e; exact h.str
  | _ => cases e
/-- a dict's look-up -/
def dLook (es : List (PyData × PyData)) (k : Key) : Option PyData := (es.find? fun e => decide (keyD e.1 = some k)).map (·.2)
theorem dLook_rp {Z : Addr → Prop} {ks : List (Key × V)} {es : List (PyData × PyData)} (k : Key) (h : RpK X.K H Z ks es) :
    (∃ v d, valV ks k = some v ∧ dLook es k = some d ∧ Rp X.K H Z v d) ∨ (valV ks k = none ∧ dLook es k = none) := by
  induction ks generalizing es with
  | nil => cases h; exact .inr ⟨rfl, rfl⟩
  | cons p ks ih =>
    cases h with
    | @cons k0 v _ c d es h0 h1 h2 =>
      by_cases e : k0 = k
      · refine .inl ⟨v, d, valV_pos e, ?_, h1⟩
        unfold dLook
        rw [List.find?_cons_of_pos (by rw [h0, e]; simp)]
        rfl
      · have e2 : dLook ((c, d) :: es) k = dLook es k := by
          unfold dLook
          rw [List.find?_cons_of_neg (by rw [h0]; simpa using e)]
        rw [valV_neg (p := (k0, v)) e, e2]
        exact ih h2
theorem hasKey_look (es : List (PyData × PyData)) (k : Key) : hasKey es k = (dLook es k).isSome := by
  unfold hasKey dLook
  rw [Option.isSome_map, List.isSome_find?]
theorem valV_has {Z : Addr → Prop} {ks : List (Key × V)} {es : List (PyData × PyData)} (k : Key) (h : RpK X.K H Z ks es) : (valV ks k).isSome = hasKey es k := by
  rw [hasKey_look]
  rcases dLook_rp k h with ⟨v, d, e1, e2, _⟩ | ⟨e1, e2⟩
  · rw [e1, e2]; rfl
  · rw [e1, e2]; rfl
theorem tkD_keyD {c : PyData} {k : List Key} (h : tkD c = some k) : keyD c = none := by cases c <;> first | rfl | cases h
theorem dLookT_rp {Z : Addr → Prop} {ks : List (List Key × V)} {es : List (PyData × PyData)} (k : List Key) (h : RpT X.K H Z ks es) :
    (∃ v d, valV ks k = some v ∧ dLookT es k = some d ∧ Rp X.K H Z v d) ∨ (valV ks k = none ∧ dLookT es k = none) := by
  induction ks generalizing es with
  | nil => cases h; exact .inr ⟨rfl, rfl⟩
  | cons p ks ih =>
    cases h with
    | @cons k0 v _ c d es h0 h1 h2 =>
      by_cases e : k0 = k
      · refine .inl ⟨v, d, valV_pos e, ?_, h1⟩
        unfold dLookT
        rw [List.find?_cons_of_pos (by rw [h0, e]; simp)]
        rfl
      · have e2 : dLookT ((c, d) :: es) k = dLookT es k := by
          unfold dLookT
          rw [List.find?_cons_of_neg (by rw [h0]; simpa using e)]
        rw [valV_neg (p := (k0, v)) e, e2]
        exact ih h2
theorem valV_hasT {Z : Addr → Prop} {ks : List (List Key × V)} {es : List (PyData × PyData)} (k : List Key) (h : RpT X.K H Z ks es) : (valV ks k).isSome = (dLookT es k).isSome := by
  rcases dLookT_rp k h with ⟨v, d, e1, e2, _⟩ | ⟨e1, e2⟩
  · rw [e1, e2]; rfl
  · rw [e1, e2]; rfl
theorem dLook_T {Z : Addr → Prop} {ks : List (List Key × V)} {es : List (PyData × PyData)} (k : Key) (h : RpT X.K H Z ks es) : dLook es k = none := by
  induction ks generalizing es with
  | nil => cases h; rfl
  | cons p ks ih =>
    cases h with
    | @cons k0 v _ c d es h0 h1 h2 =>
      unfold dLook
      rw [List.find?_cons_of_neg (by rw [tkD_keyD h0]; simp)]
      exact ih h2
theorem dLookT_K {Z : Addr → Prop} {ks : List (Key × V)} {es : List (PyData × PyData)} (k : List Key) (h : RpK X.K H Z ks es) : dLookT es k = none := by
  induction ks generalizing es with
  | nil => cases h; rfl
  | cons p ks ih =>
    cases h with
    | @cons k0 v _ c d es h0 h1 h2 =>
      have n : tkD c = none := by cases c <;> first | rfl | cases h0
      unfold dLookT
      rw [List.find?_cons_of_neg (by rw [n]; simp)]
      exact ih h2
/-- a key that is a tuple -/
theorem tkD_v {Z : Addr → Prop} {x : V} {d : PyData} {k : List Key} (h : RT X.K H Z x d) (e : tkD d = some k) : ∃ b, x = .ref b ∧ SqT X.K H b (k.map kV) := by
  cases d with
  | tuple ds =>
    obtain ⟨b, vs, rfl, h1, h2⟩ := h.tup
    have : ∀ {vs : List V} {ds : List PyData} {k : List Key}, RpA X.K H Z vs ds → keysD ds = some k → vs = k.map kV := by
      intro vs ds
      induction ds generalizing vs with
      | nil => intro k r e; cases e; cases r; rfl
      | cons d ds ih =>
        intro k r e
        unfold keysD at e
        split at e
        · rename_i k0 ks e1 e2
          cases e
          cases r with
          | cons r1 r2 => rw [List.map_cons, ih r2 e2, keyD_v (Z := Z) (.inl r1) e1]
        · cases e
    rw [this h2 (show keysD ds = some k from e)] at h1
    exact ⟨b, rfl, h1⟩
  | _ => cases e
theorem key_ofS (I : Inv X pins σ H s) {b : Addr} {ks : List Key} (h : SqT X.K H b (ks.map kV)) : (tupleKind (mixKind X.prog X.w)).is s.heap ks b := by
  obtain ⟨its, rv, ⟨o, ho, hc, n, hd⟩, _⟩ := I.tuple h
  exact ⟨o, its.toArray, n, ho, hc, hd, by simpa using items_are rv⟩
theorem dkT_k {Z : Addr → Prop} {a : Addr} {es : List (PyData × PyData)} (I : Inv X pins σ H s) (h : DkT X.K H Z a es) (hk : kindK es = true) : (a == sysModules) = false ∧ ∃ kvs vs, RpK X.K H Z kvs es ∧ KV kvs vs ∧ s.heap.DictOf (mixKind X.prog X.w) a vs := by
  rcases h with ⟨ks, h1, h2⟩ | ⟨ks, h1, h2⟩
  · obtain ⟨_, hd, vs, rel, dd⟩ := dk_rd I.hok h1
    exact ⟨hd, ks, vs, h2, rel, dd⟩
  · cases h2 with
    | nil =>
      obtain ⟨_, hd, xs, r, o, ents, ep, ho, hc, he, hl, _⟩ := (show ObjOk X.prog X.w H s.heap a (.dT []) from h1.ok I.hok)
      cases r
      have e0 : ents = #[] := by
        have : ents.toList = [] := hl
        simpa using this
      subst e0
      exact ⟨hd, [], [], .nil, .nil, o, #[], ep, ho, hc, he, fun e he2 => absurd he2 (by simp), .nil, List.nodup_nil⟩
    | @cons k v kvs c d es h0 _ _ =>
      have hk : (keyD c).isSome = true := hk
      rw [tkD_keyD h0] at hk
      cases hk
theorem dkT_t {Z : Addr → Prop} {a : Addr} {es : List (PyData × PyData)} (I : Inv X pins σ H s) (h : DkT X.K H Z a es) (hk : kindT es = true) : (a == sysModules) = false ∧ ∃ kvs xs, RpT X.K H Z kvs es ∧ KT H kvs xs ∧ s.heap.DictOfH (tupleKind (mixKind X.prog X.w)) a xs := by
  rcases h with ⟨ks, h1, h2⟩ | ⟨ks, h1, h2⟩
  · cases h2 with
    | nil =>
      obtain ⟨_, hd, vs, rel, o, ents, ep, ho, hc, he, _, hp, _⟩ := (show ObjOk X.prog X.w H s.heap a (.dK []) from h1.ok I.hok)
      cases rel
      have e0 : ents.toList = [] := by generalize ents.toList = l at hp; cases hp; rfl
      exact ⟨hd, [], [], .nil, .nil, o, ents, ep, ho, hc, he, e0, fun x hx => absurd hx List.not_mem_nil, List.nodup_nil⟩
    | @cons k v kvs c d es h0 _ _ =>
      have hk : (tkD c).isSome = true := hk
      have n : tkD c = none := by cases c <;> first | rfl | cases h0
      rw [n] at hk
      cases hk
  · obtain ⟨_, hd, xs, rel, dd⟩ := dt_rd I.hok h1
    exact ⟨hd, ks, xs, h2, rel, dd⟩
theorem o_in {k : Nat} (hr : L2H.RoomH k X.A) : OpR X (compareOp .In) (rD X.K inD) := by
  intro pins s σ H x y v u Q I rx ry ⟨Z, d, e, r, hz, hd, he, hf, ho⟩
  unfold inD at hf
  cases q : inB d e with
  | none => rw [q] at hf; cases hf
  | some b =>
    rw [q] at hf
    cases hf
    unfold inB at q
    split at q
    · split at q
      · rename_i h
        cases q
        obtain ⟨h1, h2, h3⟩ := inOk_of h
        obtain ⟨as, r1⟩ := Inv.rt I hd rx
        obtain ⟨bs, r2⟩ := Inv.rt I he ry
        exact PySem.SeqAt.in_list_data r2 r1 h2 h1 (by have := room_eq hr (show 60 ≤ 60 by decide); omega) (rout_bl (I := I) ho)
      · cases q
    · split at q
      · rename_i h
        cases q
        obtain ⟨h1, h2, h3⟩ := inOk_of h
        obtain ⟨as, r1⟩ := Inv.rt I hd rx
        obtain ⟨bs, r2⟩ := Inv.rt I he ry
        exact PySem.SeqAt.in_tuple_data r2 r1 h2 h1 (by have := room_eq hr (show 60 ≤ 60 by decide); omega) (rout_bl (I := I) ho)
      · cases q
    · split at q
      · rename_i kk hk
        split at q
        · rename_i kd
          cases q
          obtain ⟨a, rfl, h1⟩ := he.dic
          cases ry
          have e1 := keyD_v hd hk
          subst e1
          obtain ⟨hsm, kvs, vs, h2, rel, dd⟩ := dkT_k I h1 kd
          refine wpAny_in_of (kV_is rx) hsm dd.mapOf ?_
          rw [← (rel.val kk).isSome_eq, valV_has kk h2]
          exact ⟨.bl _, H, I.tok _, rfl, rout_here ho (.bl _)⟩
        · cases q
      · split at q
        · rename_i ks hk
          split at q
          · rename_i kd
            cases q
            obtain ⟨a, rfl, h1⟩ := he.dic
            cases ry
            obtain ⟨b, rfl, h3⟩ := tkD_v hd hk
            cases rx
            obtain ⟨hsm, kvs, xs, h2, rel, dd⟩ := dkT_t I h1 kd
            refine wpAny_in_heap (tupleKind_room_in1 (room_eq hr (show 1 ≤ 60 by decide))) (key_ofS I h3) hsm dd ?_
            have q := (rel.val ks).isSome_eq
            rw [Option.isSome_map] at q
            rw [← q, valV_hasT ks h2]
            exact ⟨.bl _, H, I.tok _, rfl, rout_here ho (.bl _)⟩
          · cases q
        · cases q
    · split at q
      · cases q
        exact op_in_str pins s σ H x y v u Q I rx ry ⟨_, _, hd.str, he.str, rout_here ho (.bl _)⟩
      · cases q
    · cases q
theorem o_ni {k : Nat} (hr : L2H.RoomH k X.A) : OpR X (compareOp .NotIn) (rD X.K niD) := by
  intro pins s σ H x y v u Q I rx ry ⟨Z, d, e, r, hz, hd, he, hf, ho⟩
  unfold niD at hf
  cases q : inB d e with
  | none => rw [q] at hf; cases hf
  | some b =>
    rw [q] at hf
    cases hf
    unfold inB at q
    split at q
    · split at q
      · rename_i h
        cases q
        obtain ⟨h1, h2, h3⟩ := inOk_of h
        obtain ⟨as, r1⟩ := Inv.rt I hd rx
        obtain ⟨bs, r2⟩ := Inv.rt I he ry
        exact PySem.SeqAt.notIn_list_data r2 r1 h2 h1 (by have := room_eq hr (show 60 ≤ 60 by decide); omega) (rout_bl (I := I) ho)
      · cases q
    · split at q
      · rename_i h
        cases q
        obtain ⟨h1, h2, h3⟩ := inOk_of h
        obtain ⟨as, r1⟩ := Inv.rt I hd rx
        obtain ⟨bs, r2⟩ := Inv.rt I he ry
        exact PySem.SeqAt.notIn_tuple_data r2 r1 h2 h1 (by have := room_eq hr (show 60 ≤ 60 by decide); omega) (rout_bl (I := I) ho)
      · cases q
    · split at q
      · rename_i kk hk
        split at q
        · rename_i kd
          cases q
          obtain ⟨a, rfl, h1⟩ := he.dic
          cases ry
          have e1 := keyD_v hd hk
          subst e1
          obtain ⟨hsm, kvs, vs, h2, rel, dd⟩ := dkT_k I h1 kd
          refine wpAny_notIn_of (kV_is rx) hsm dd.mapOf ?_
          rw [← (rel.val kk).isSome_eq, valV_has kk h2]
          exact ⟨.bl _, H, I.tok _, rfl, rout_here ho (.bl _)⟩
        · cases q
      · split at q
        · rename_i ks hk
          split at q
          · rename_i kd
            cases q
            obtain ⟨a, rfl, h1⟩ := he.dic
            cases ry
            obtain ⟨b, rfl, h3⟩ := tkD_v hd hk
            cases rx
            obtain ⟨hsm, kvs, xs, h2, rel, dd⟩ := dkT_t I h1 kd
            refine wpAny_notIn_heap (tupleKind_room_in1 (room_eq hr (show 1 ≤ 60 by decide))) (key_ofS I h3) hsm dd ?_
            have q := (rel.val ks).isSome_eq
            rw [Option.isSome_map] at q
            rw [← q, valV_hasT ks h2]
            exact ⟨.bl _, H, I.tok _, rfl, rout_here ho (.bl _)⟩
          · cases q
        · cases q
    · split at q
      · cases q
        exact op_notin_str pins s σ H x y v u Q I rx ry ⟨_, _, hd.str, he.str, rout_here ho (.bl _)⟩
      · cases q
    · cases q
/-! ## subscripts, slices -/
def atD {α : Type} (xs : List α) (i : Int) : Option α := (ixN xs.length i).bind fun j => xs[j]?
def ixD : PyData → PyData → Option PyData
  | .list xs, .int i => atD xs i
  | .tuple xs, .int i => atD xs i
  | .str z, .int i => if z.length ≤ 1000000 then (atD z.cps.toList i).map fun c => .str ⟨#[c]⟩ else none
  | .dict es, k => match keyD k with
    | some k => dLook es k
    | none => match tkD k with
      | some ks => dLookT es ks
      | none => none
  | _, _ => none
theorem atI_rp {Z : Addr → Prop} {vs : List V} {ds : List PyData} {i : Int} {d : PyData} (h : RpA X.K H Z vs ds) (e : atD ds i = some d) : ∃ v, atI vs i = some v ∧ Rp X.K H Z v d := by
  unfold atD at e
  rw [← h.len] at e
  unfold atI
  cases q : ixN vs.length i with
  | none => rw [q] at e; cases e
  | some j =>
    rw [q] at e
    exact h.get (i := j) e
theorem o_ix {k : Nat} (hr : L2H.RoomH k X.A) : IxR X (rD X.K ixD) := by
  intro val sli pins s σ H x y v u Q I rx ry ⟨Z, d, e, r, hz, hd, he, hf, ho⟩ hs
  unfold ixD at hf
  split at hf
  · obtain ⟨a, vs, rfl, h1, h2⟩ := hd.lst
    obtain ⟨w, hw, rw'⟩ := atI_rp h2 hf
    exact ix_list val sli pins s σ H _ y v u Q I rx ry ⟨a, vs, _, w, rfl, he.int, h1.sq, hw, rout_here ho rw'⟩ hs
  · obtain ⟨a, vs, rfl, h1, h2⟩ := hd.tup
    obtain ⟨w, hw, rw'⟩ := atI_rp h2 hf
    exact ix_tup val sli pins s σ H _ y v u Q I rx ry ⟨a, vs, _, w, rfl, he.int, h1, hw, rout_here ho rw'⟩ hs
  · split at hf
    · rename_i z i hl
      cases q : atD z.cps.toList i with
      | none => rw [q] at hf; cases hf
      | some c =>
        rw [q] at hf
        cases hf
        exact ix_str val sli pins s σ H x y v u Q I rx ry ⟨_, _, c, hd.str, he.int, Nat.le_trans hl line_lim, q, rout_here ho (.str _)⟩ hs
    · cases hf
  · split at hf
    · rename_i kk hk
      obtain ⟨a, rfl, h1⟩ := hd.dic
      cases rx
      have e1 := keyD_v he hk
      subst e1
      rcases h1 with ⟨ks, h1, h2⟩ | ⟨ks, h1, h2⟩
      · rcases dLook_rp kk h2 with ⟨w, d', e1, e2, rw'⟩ | ⟨e1, e2⟩
        · rw [e2] at hf
          cases hf
          have g : DGet H a (kV kk) (some w) := by rw [← e1]; exact .inl ⟨_, _, h1, rfl, rfl⟩
          exact tail_any (dict_typeIs I g) PySem.F.slot_dict_getitem.lookup (d_getItem (room_eq hr (show 1 ≤ 60 by decide)) I g ry fun w' s1 I1 r1 => ⟨w, H, I1, r1, rout_here ho rw'⟩) hs
        · rw [e2] at hf
          cases hf
      · rw [dLook_T kk h2] at hf
        cases hf
    · split at hf
      · rename_i kk hk
        obtain ⟨a, rfl, h1⟩ := hd.dic
        cases rx
        obtain ⟨b, rfl, h3⟩ := tkD_v he hk
        cases ry
        rcases h1 with ⟨ks, h1, h2⟩ | ⟨ks, h1, h2⟩
        · rw [dLookT_K kk h2] at hf
          cases hf
        · rcases dLookT_rp kk h2 with ⟨w, d', e1, e2, rw'⟩ | ⟨e1, e2⟩
          · rw [e2] at hf
            cases hf
            obtain ⟨_, _, xs, rel, dd⟩ := dt_rd I.hok h1
            obtain ⟨w', hw, rw2⟩ := RelO.some_of (v := w) (o := (atKey xs kk).map (·.2)) (by rw [← e1]; exact rel.val kk)
            obtain ⟨p, hp, hp2⟩ := Option.map_eq_some_iff.mp hw
            refine tail_any (dd.typeIs) PySem.F.slot_dict_getitem.lookup (wpAny_getItem_heap (tupleKind_room_in1 (room_eq hr (show 1 ≤ 60 by decide))) (key_ofS I h3) dd hp ?_) hs
            rw [hp2]
            exact ⟨w, H, I.tok _, rw2, rout_here ho rw'⟩
          · rw [e2] at hf
            cases hf
      · cases hf
  · cases hf
theorem de_ix {k : Nat} (hr : L2H.RoomH k X.A) {a b : Expr} {ca cb : En → Sto → Rs Wv} {pos : Pos} (ha : DE X a ca) (hb : DE X b cb) (hs : PlainIx b) : DE X (.Subscript a b pos) (eOp2 ixD ca cb) :=
  ⟨fun W tk => PE.imp (pe_ix (o_ix hr) (ha.pe W tk) (hb.pe W tk) hs) fun σ H Q => te_two ixD⟩
/-- a part of a slice -/
structure DO (X : Cx) (e : Option Expr) (c : En → Sto → Rs (Option Int)) : Prop where
  po : ∀ W, Takes X W → PO X e fun σ H Q => ∃ m env st, Sim X.K H m st ∧ EnvR X.K H m st.length env σ ∧ (c env st).post (fun i st' => ∀ H' m', Fol m st.length H m' st'.length H' → Sim X.K H' m' st' → Q i H') (okX X W m st.length H σ)
def pNo : En → Sto → Rs (Option Int) := fun _ st => .ok none st
def pSome (c : En → Sto → Rs Wv) : En → Sto → Rs (Option Int) := fun env st => (c env st).bind fun w st1 => match w with
  | .d (.int i) => .ok (some i) st1
  | _ => .no
theorem PO.imp {e : Option Expr} {t t' : TO} (h : PO X e t) (q : ∀ σ H Q, t' σ H Q → t σ H Q) : PO X e t' := ⟨fun pins s σ H Q I x => h.run pins s σ H Q I (q σ H Q x)⟩
theorem do_no : DO X none pNo := ⟨fun W tk => PO.imp po_none fun σ H Q ⟨m, env, st, S, R, hp⟩ => hp H m .refl S⟩
theorem do_some {e : Expr} {c : En → Sto → Rs Wv} (h : DE X e c) : DO X (some e) (pSome c) := by
  refine ⟨fun W tk => PO.imp (po_some (h.pe W tk)) fun σ H Q ⟨m, env, st, S, R, hp⟩ => ?_⟩
  unfold pSome at hp
  rw [Rs.post_bind] at hp
  refine ⟨m, env, st, S, R, Rs.post_mono hp (fun w st1 q v H1 m1 f1 S1 r1 => ?_) fun _ _ q => q⟩
  split at q
  · cases r1
    exact ⟨_, rfl, q H1 m1 f1 S1⟩
  · exact q.elim
def cutD {α : Type} (xs : List α) (lo hi : Option Int) : List α := (xs.drop (HT.sIx xs.length 0 lo)).take (HT.sIx xs.length xs.length hi - HT.sIx xs.length 0 lo)
def slD (lo hi : Option Int) : PyData → Option PyData
  | .list xs => some (.list (cutD xs lo hi))
  | .tuple xs => some (.tuple (cutD xs lo hi))
  | .str z => if z.length ≤ 1000000 then some (.str (cutS z lo hi)) else none
  | _ => none
theorem cut_whole {α : Type} {xs : List α} {lo hi : Option Int} (h : HT.sIx xs.length 0 lo = 0 ∧ HT.sIx xs.length xs.length hi = xs.length) : cutD xs lo hi = xs := by
  unfold cutD
  rw [h.1, h.2]
  simp
theorem RpA.cut {K : Frg} {H : Hp} {Z : Addr → Prop} {vs : List V} {ds : List PyData} (h : RpA K H Z vs ds) (lo hi : Option Int) : RpA K H Z (cutV vs lo hi) (cutD ds lo hi) := by
  unfold cutV cutD
  rw [h.len]
  exact (h.drop _).take _
/-- a slice of a list, whoever holds it -/
def rSlice (K : Frg) : V → Option Int → Option Int → Hp → VK → Prop := fun x lo hi H Q => ∃ Z d r, (∀ a, H a = none → Z a) ∧ RT K H Z x d ∧ slD lo hi d = some r ∧ rOut K H Z r Q
theorem o_slice : SlR X (rSlice X.K) := by
  intro pins s σ H x v vl vu lo hi sl Q I rx hs pl pu ⟨Z, d, r, hz, hd, hf, ho⟩
  unfold slD at hf
  split at hf
  · cases hf
    obtain ⟨a, vs, rfl, h1, h2⟩ := hd.lst
    exact sl_list pins s σ H _ v vl vu lo hi sl Q I rx hs pl pu ⟨a, vs, rfl, h1.sq, rout_lst hz ho (h2.cut lo hi)⟩
  · cases hf
    obtain ⟨a, vs, rfl, h1, h2⟩ := hd.tupT
    refine sl_tupA pins s σ H _ v vl vu lo hi sl Q I rx hs pl pu ⟨a, vs, rfl, h1.sq, fun e => ?_, fun _ => rout_tup ho (h2.cut lo hi)⟩
    rw [cut_whole (by rw [← h2.len]; exact e)] at ho
    exact rout_here ho (.tup h1 h2)
  · split at hf
    · rename_i h
      cases hf
      exact sl_str pins s σ H x v vl vu lo hi sl Q I rx hs pl pu ⟨_, hd.str, Nat.le_trans h line_lim, rout_here ho (.str _)⟩
    · cases hf
  · cases hf
def eSlice (c : En → Sto → Rs Wv) (l h : En → Sto → Rs (Option Int)) : En → Sto → Rs Wv := fun env st => (c env st).bind fun w st1 => (l env st1).bind fun lo st2 => (h env st2).bind fun hi st3 => look1 w st3 fun d => ret1 (slD lo hi d) st3
theorem de_slice {a : Expr} {lo hi : Option Expr} {c : En → Sto → Rs Wv} {l h : En → Sto → Rs (Option Int)} {p2 pos : Pos} (ha : DE X a c) (hl : DO X lo l) (hh : DO X hi h) : DE X (.Subscript a (.Slice lo hi none p2) pos) (eSlice c l h) := by
  refine ⟨fun W tk => PE.imp (pe_slice o_slice (ha.pe W tk) (hl.po W tk) (hh.po W tk)) fun σ H Q ⟨m, env, st, S, R, hp⟩ => ?_⟩
  unfold eSlice at hp
  rw [Rs.post_bind] at hp
  refine ⟨m, env, st, S, R, Rs.post_mono hp (fun w st1 q v H1 m1 f1 S1 r1 => ?_) fun _ _ q => q⟩
  rw [Rs.post_bind] at q
  refine ⟨m1, env, st1, S1, R.mv f1, Rs.post_mono q (fun i st2 q H2 m2 f2 S2 => ?_) fun _ _ q => okX.tr f1 q⟩
  rw [Rs.post_bind] at q
  refine ⟨m2, env, st2, S2, (R.mv f1).mv f2, Rs.post_mono q (fun j st3 q H3 m3 f3 S3 => ?_) fun _ _ q => okX.tr (f1.trans f2) q⟩
  obtain ⟨d, e1, q⟩ := look1_post q
  obtain ⟨r, e2, q⟩ := ret1_post q
  exact ⟨_, d, r, fun a => S3.fresh, look_rt S3 ((r1.mv f2).mv f3) e1, e2, okE.out ((f1.trans f2).trans f3) S3 q⟩
/-! ## built-ins by their names -/
theorem de_callB {a : Expr} {as : List Expr} {cs : En → Sto → Rs (List Wv)} {x : Str} {id : String} {f : List PyData → Option PyData} {M : Md} {B : Tb} {k : Nat} {p pos : Pos} (c : Cxt M X B k) (hc : CallR X (.builtin id) (rN X.K f)) (j : Nat) (hg : B.gs[j]? = some x) (hm : M.mg x = none)
    (hv : bootBuiltins x = some (.builtin id)) (ha : DA X (a :: as) cs) (hn : x ≠ "__name__" := by decide) (hdb : (x == ("__debug__" : Str)) = false := by decide)
    (he : starEach (a :: as) X.env = (false, eval a X.env) :: starEach as X.env := by rfl) (hpl : (backTo pos (starEach as X.env)).any (·.1) = false := by rfl) : DE X (.Call (.Name x p) (a :: as) [] pos) (eOpN f cs) :=
  ⟨fun W tk => PE.imp (pe_callB hc (c.gl j x hg) (by rw [c.mg]; exact hm) hv (ha.pa W tk) hn hdb he hpl) fun σ H Q => te_all f⟩
theorem de_callT {a : Expr} {as : List Expr} {cs : En → Sto → Rs (List Wv)} {x : Str} {T : String} {f : List PyData → Option PyData} {M : Md} {B : Tb} {k : Nat} {p pos : Pos} (c : Cxt M X B k) (hc : CallR X (.type T) (rN X.K f)) (j : Nat) (hg : B.gs[j]? = some x) (hm : M.mg x = none)
    (hv : bootBuiltins x = some (.type T)) (ha : DA X (a :: as) cs) (hn : x ≠ "__name__" := by decide) (hdb : (x == ("__debug__" : Str)) = false := by decide)
    (he : starEach (a :: as) X.env = (false, eval a X.env) :: starEach as X.env := by rfl) (hpl : (backTo pos (starEach as X.env)).any (·.1) = false := by rfl) : DE X (.Call (.Name x p) (a :: as) [] pos) (eOpN f cs) :=
  ⟨fun W tk => PE.imp (pe_callTy hc (c.gl j x hg) (by rw [c.mg]; exact hm) hv (ha.pa W tk) hn hdb he hpl) fun σ H Q => te_all f⟩
theorem rts1 {K : Frg} {H : Hp} {Z : Addr → Prop} {vs : List V} {d : PyData} (h : RTs K H Z vs [d]) : ∃ v, vs = [v] ∧ RT K H Z v d := by
  cases h with | cons h1 h2 => cases h2; exact ⟨_, rfl, h1⟩
theorem rts2 {K : Frg} {H : Hp} {Z : Addr → Prop} {vs : List V} {d e : PyData} (h : RTs K H Z vs [d, e]) : ∃ v w, vs = [v, w] ∧ RT K H Z v d ∧ RT K H Z w e := by
  cases h with | cons h1 h2 => cases h2 with | cons h3 h4 => cases h4; exact ⟨_, _, rfl, h1, h3⟩
theorem Inv.rt1 {K : Frg} {Z : Addr → Prop} (I : Inv X pins σ H s) {v : V} {us : List Value} {d : PyData} (h : RT X.K H Z v d) (r : Vals [v] us) : ∃ u as, us = [u] ∧ RelV v u ∧ Reads s.heap u d as := by
  obtain ⟨u, rfl, r1⟩ := Vals.one r
  obtain ⟨as, q⟩ := Inv.rt I h r1
  exact ⟨u, as, rfl, r1, q⟩
theorem RpT.len {K : Frg} {H : Hp} {Z : Addr → Prop} : ∀ {ks : List (List Key × V)} {es : List (PyData × PyData)}, RpT K H Z ks es → ks.length = es.length
  | [], [], _ => rfl
  | _ :: _, _ :: _, .cons _ _ h => by simp [RpT.len h]
def lenD : PyData → Option PyData
  | .list xs => some (.int xs.length)
  | .tuple xs => some (.int xs.length)
  | .dict es => some (.int es.length)
  | .str z => if z.length ≤ 1000000 then some (.int z.length) else none
  | _ => none
def lenF : List PyData → Option PyData
  | [d] => lenD d
  | _ => none
theorem RpK.len {K : Frg} {H : Hp} {Z : Addr → Prop} : ∀ {ks : List (Key × V)} {es : List (PyData × PyData)}, RpK K H Z ks es → ks.length = es.length
  | [], [], _ => rfl
  | _ :: _, _ :: _, .cons _ _ h => by simp [RpK.len h]
theorem c_len : CallR X (.builtin "len") (rN X.K lenF) := by
  intro pins s σ H xs us Q I r ⟨Z, ds, e, hz, hd, hf, ho⟩
  unfold lenF at hf
  split at hf
  · obtain ⟨v, rfl, h⟩ := rts1 hd
    unfold lenD at hf
    split at hf
    · cases hf
      obtain ⟨a, vs, rfl, h1, h2⟩ := h.lst
      exact call_len_seq pins s σ H _ us Q I r ⟨a, vs, rfl, .inl h1.sq, by rw [h2.len]; exact rout_here ho (.int _)⟩
    · cases hf
      obtain ⟨a, vs, rfl, h1, h2⟩ := h.tup
      exact call_len_seq pins s σ H _ us Q I r ⟨a, vs, rfl, .inr h1, by rw [h2.len]; exact rout_here ho (.int _)⟩
    · cases hf
      obtain ⟨a, rfl, h1⟩ := h.dic
      obtain ⟨u, rfl, r1⟩ := Vals.one r
      cases r1
      rcases h1 with ⟨ks, h1, h2⟩ | ⟨ks, h1, h2⟩
      · exact d_len I h1 fun t s1 I1 => ⟨.int ks.length, H, I1, ⟨t, rfl⟩, by rw [h2.len]; exact rout_here ho (.int _)⟩
      · obtain ⟨z, hsm, xs, rel, dd⟩ := dt_rd I.hok h1
        refine call_len_dictH hsm dd (by rw [← Paired.length rel]; rw [sizeLine_eq] at z; omega) ?_
        exact ⟨.int xs.length, H, I.tok _, ⟨_, rfl⟩, by rw [← Paired.length rel, h2.len]; exact rout_here ho (.int _)⟩
    · split at hf
      · rename_i hl
        cases hf
        have e1 := h.str
        subst e1
        exact call_len_str pins s σ H _ us Q I r ⟨_, rfl, Nat.le_trans hl line_lim, rout_here ho (.int _)⟩
      · cases hf
    · cases hf
  · cases hf
end
end
section
variable [Wtp] [Tbl]
section
variable {X : Cx} {pins : List (Addr × Obj)} {σ : L2.St} {H : Hp} {s : Shared}
/-- what a sequence holds -/
def seqOf : PyData → Option (List PyData)
  | .list xs => some xs
  | .tuple xs => some xs
  | _ => none
def intsOf : List PyData → Option (List Int)
  | [] => some []
  | .int i :: r => (intsOf r).map (i :: ·)
  | _ :: _ => none
def boolsOf : List PyData → Option (List Bool)
  | [] => some []
  | .bool b :: r => (boolsOf r).map (b :: ·)
  | _ :: _ => none
theorem intsOf_map (ns : List Int) : intsOf (ns.map .int) = some ns := by
  induction ns with
  | nil => rfl
  | cons n r ih => rw [List.map_cons, intsOf, ih]; rfl
theorem boolsOf_map (ns : List Bool) : boolsOf (ns.map .bool) = some ns := by
  induction ns with
  | nil => rfl
  | cons n r ih => rw [List.map_cons, boolsOf, ih]; rfl
theorem boolsOf_eq : ∀ {xs : List PyData} {ns : List Bool}, boolsOf xs = some ns → xs = ns.map .bool
  | [], ns, h => by cases h; rfl
  | .bool i :: r, ns, h => by
    rw [boolsOf] at h
    cases q : boolsOf r with
    | none => rw [q] at h; cases h
    | some l => rw [q] at h; cases h; rw [List.map_cons, ← boolsOf_eq q]
  | .none :: r, ns, h => by cases h
  | .int _ :: r, ns, h => by cases h
  | .str _ :: r, ns, h => by cases h
  | .list _ :: r, ns, h => by cases h
  | .tuple _ :: r, ns, h => by cases h
  | .dict _ :: r, ns, h => by cases h
theorem RpA.bools {K : Frg} {Z : Addr → Prop} : ∀ {vs : List V} {ns : List Bool}, RpA K H Z vs (ns.map .bool) → vs = ns.map V.bl
  | [], [], _ => rfl
  | _ :: _, _ :: _, .cons h1 h2 => by cases h1; rw [List.map_cons, ← RpA.bools h2]
/-! ### abs, sum, any, all -/
def sumF : List PyData → Option PyData
  | [d] => match seqOf d with
    | some xs => (intsOf xs).map fun ns => .int ns.sum
    | none => none
  | _ => none
def allF : List PyData → Option PyData
  | [.list xs] => (boolsOf xs).map fun bs => .bool (bs.all id)
  | _ => none
theorem c_all (hc : X.calm = true) : CallR X (.builtin "all") (rN X.K allF) := by
  intro pins s σ H xs us Q I r ⟨Z, ds, e, hz, hd, hf, ho⟩
  unfold allF at hf
  split at hf
  · rename_i xs
    obtain ⟨v, rfl, h⟩ := rts1 hd
    cases q2 : boolsOf xs with
    | none => rw [q2] at hf; cases hf
    | some ns =>
      rw [q2] at hf
      cases hf
      have e1 := boolsOf_eq q2
      subst e1
      obtain ⟨a, vs, rfl, h1, h2⟩ := h.lst
      rw [h2.bools] at h1
      exact cr_all hc pins s σ H _ us Q I r ⟨a, ns, rfl, h1.sq, rout_here ho (.bl _)⟩
  · cases hf
/-! ### tuple, list, int -/
def tupF : List PyData → Option PyData
  | [d] => (seqOf d).map .tuple
  | _ => none
def lstF : List PyData → Option PyData
  | [d] => (seqOf d).map .list
  | _ => none
def intF : List PyData → Option PyData
  | [.int i] => some (.int i)
  | [.bool b] => some (.int (if b then 1 else 0))
  | _ => none
theorem c_tup : CallR X (.type "tuple") (rN X.K tupF) := by
  intro pins s σ H xs us Q I r ⟨Z, ds, e, hz, hd, hf, ho⟩
  unfold tupF at hf
  split at hf
  · obtain ⟨v, rfl, h⟩ := rts1 hd
    unfold seqOf at hf
    split at hf
    · cases hf
      obtain ⟨a, vs, rfl, h1, h2⟩ := h.lst
      exact call_tuple_of pins s σ H _ us Q I r ⟨a, vs, rfl, .inl ⟨h1.sq, rout_tup ho h2⟩⟩
    · cases hf
      obtain ⟨a, vs, rfl, h1, h2⟩ := h.tupT
      exact call_tuple_of pins s σ H _ us Q I r ⟨a, vs, rfl, .inr ⟨h1.sq, rout_here ho (.tup h1 h2)⟩⟩
    · cases hf
  · cases hf
theorem c_lst : CallR X (.type "list") (rN X.K lstF) := by
  intro pins s σ H xs us Q I r ⟨Z, ds, e, hz, hd, hf, ho⟩
  unfold lstF at hf
  split at hf
  · obtain ⟨v, rfl, h⟩ := rts1 hd
    unfold seqOf at hf
    split at hf
    · cases hf
      obtain ⟨a, vs, rfl, h1, h2⟩ := h.lst
      exact call_list_of pins s σ H _ us Q I r ⟨a, vs, rfl, .inl h1.sq, rout_lst hz ho h2⟩
    · cases hf
      obtain ⟨a, vs, rfl, h1, h2⟩ := h.tup
      exact call_list_of pins s σ H _ us Q I r ⟨a, vs, rfl, .inr h1, rout_lst hz ho h2⟩
    · cases hf
  · cases hf
theorem c_int : CallR X (.type "int") (rN X.K intF) := by
  intro pins s σ H xs us Q I r ⟨Z, ds, e, hz, hd, hf, ho⟩
  unfold intF at hf
  split at hf
  · cases hf
    obtain ⟨v, rfl, h⟩ := rts1 hd
    rw [h.int] at r
    exact call_int1 pins s σ H _ us Q I r (.inl ⟨_, rfl, rout_here ho (.int _)⟩)
  · cases hf
    obtain ⟨v, rfl, h⟩ := rts1 hd
    rw [h.bl] at r
    exact call_int1 pins s σ H _ us Q I r (.inr ⟨_, rfl, rout_here ho (.int _)⟩)
  · cases hf
/-! ### isinstance of a built-in class -/
def isaD (T : String) (d : PyData) : Option PyData := match T with
  | "int" => some (.bool d.isInt)
  | "bool" => some (.bool d.isBool)
  | "str" => some (.bool d.isStr)
  | "tuple" => some (.bool d.isTuple)
  | "list" => some (.bool d.isList)
  | "dict" => some (.bool d.isDict)
  | _ => none
def rIsa (K : Frg) (T : String) : List V → Hp → VK → Prop := fun vs H Q => ∃ Z v d r, vs = [v, .ty T] ∧ RT K H Z v d ∧ isaD T d = some r ∧ rOut K H Z r Q
theorem c_isa {T : String} : CallR X (.builtin "isinstance") (rIsa X.K T) := by
  intro pins s σ H xs us Q I r h
  obtain ⟨Z, v, d, e, rfl, hd, hf, ho⟩ := h
  obtain ⟨u, t, rfl, r1, r2⟩ := Vals.two r
  cases r2
  obtain ⟨as, q⟩ := Inv.rt I hd r1
  have fin : ∀ (b : Bool), e = .bool b → ∀ tk, EP X pins σ Q (.bool b) { s with toks := tk } := fun b eb tk => ⟨.bl b, H, I.tok tk, rfl, rout_here ho (by rw [eb]; exact .bl b)⟩
  unfold isaD at hf
  split at hf
  · cases hf; exact PySem.W.isinstance_int_data q fun tk _ => fin _ rfl tk
  · cases hf; exact PySem.W.isinstance_bool_data q fun tk _ => fin _ rfl tk
  · cases hf; exact PySem.W.isinstance_str_data q fun tk _ => fin _ rfl tk
  · cases hf; exact PySem.W.isinstance_tuple_data q fun tk _ => fin _ rfl tk
  · cases hf; exact PySem.W.isinstance_list_data q fun tk _ => fin _ rfl tk
  · cases hf; exact PySem.W.isinstance_dict_data q fun tk _ => fin _ rfl tk
  · cases hf
theorem de_isa {M : Md} {B : Tb} {k : Nat} {a : Expr} {ca : En → Sto → Rs Wv} {x : Str} {T : String} {p p2 pos : Pos} (c : Cxt M X B k) (j j2 : Nat) (hg : B.gs[j]? = some ("isinstance" : Str)) (hm : M.mg "isinstance" = none) (hg2 : B.gs[j2]? = some x) (hm2 : M.mg x = none)
    (hv : bootBuiltins x = some (.type T)) (ha : DE X a ca) (hn : x ≠ "__name__" := by decide) (hdb : (x == ("__debug__" : Str)) = false := by decide)
    (he : starEach [a, .Name x p2] X.env = (false, eval a X.env) :: starEach [.Name x p2] X.env := by rfl) : DE X (.Call (.Name "isinstance" p) [a, .Name x p2] [] pos) (eOp1 (isaD T) ca) := by
  refine ⟨fun W tk => PE.imp (pe_callB (c_isa (T := T)) (c.gl j _ hg) (by rw [c.mg]; exact hm) (by decide +kernel) (pa_cons (ha.pe W tk) (pa_cons (pe_bltn (v := .ty T) (c.gl j2 _ hg2) (by rw [c.mg]; exact hm2) hv rfl hn hdb) pa_nil) he) (by decide) (by decide) he) fun σ H Q h => ?_⟩
  obtain ⟨m, env, st, S, R, hp⟩ := h
  unfold eOp1 at hp
  rw [Rs.post_bind] at hp
  refine ⟨m, env, st, S, R, Rs.post_mono hp (fun w st1 q v H1 m1 f1 S1 r1 => ?_) fun _ _ q => q⟩
  obtain ⟨d, e1, q⟩ := look1_post q
  obtain ⟨r, e3, q⟩ := ret1_post q
  exact ⟨_, v, d, r, rfl, look_rt S1 r1 e1, e3, okE.out f1 S1 q⟩
/-! ### repr -/
def reprOk (d : PyData) : Bool := d.showable && (decide (d.depth ≤ 40) && decide (d.shown.length ≤ 16000000))
def reprF : List PyData → Option PyData
  | [.dict []] => some (.str "{}")
  | [d] => if reprOk d then some (.str d.shown) else none
  | _ => none
theorem readsAll_none {h : Heap} {l : List Value} {as : List Addr} (r : ReadsAll h l [] as) : as = [] := by cases r; rfl
theorem c_repr {k : Nat} (hr : L2H.RoomH k X.A) (hg : X.A.guards = some []) (sm : SysM X.base) : CallR X (.builtin "repr") (rN X.K reprF) := by
  intro pins s σ H xs us Q I r ⟨Z, ds, e, hz, hd, hf, ho⟩
  have line : 16000000 ≤ sizeLine := by rw [sizeLine_eq]; decide
  have hu := room_eq hr (show 60 ≤ 60 by decide)
  unfold reprF at hf
  split at hf
  · cases hf
    obtain ⟨v, rfl, h⟩ := rts1 hd
    obtain ⟨a, rfl, h1⟩ := h.dic
    obtain ⟨u, as, rfl, r1, q⟩ := Inv.rt1 (K := X.K) I h r
    cases r1
    obtain ⟨hs, _⟩ := dkT_k I h1 rfl
    have hns : sysModules ∉ as := by
      cases q with
      | dict h1 h2 h3 h4 h5 =>
        rw [readsAll_none h4, readsAll_none h5]
        intro z
        simp at z
        rw [z] at hs
        simp at hs
    exact repr_of_reads' q (by decide +kernel) (fun _ => hns) hg (by show X.A.units + (_ + 1) < cLine; simp only [PyData.depth, PyData.depthKv]; omega) (fun _ _ e => e) (fun h' u tk hk => ⟨.str "{}", H, I.kept (t' := tk) hk, ⟨u, rfl⟩, rout_here ho (.str _)⟩) (by show ("{}" : Str).length ≤ sizeLine; exact Nat.le_trans (by decide +kernel) line)
  · split at hf
    · rename_i d _ hk
      cases hf
      unfold reprOk at hk
      simp only [Bool.and_eq_true, decide_eq_true_eq] at hk
      obtain ⟨k1, k2, k3⟩ := hk
      obtain ⟨v, rfl, h⟩ := rts1 hd
      obtain ⟨u, rfl, r1⟩ := Vals.one r
      obtain ⟨as, q, off⟩ := Inv.rtM I h r1
      have big : d.shown.length ≤ sizeLine := Nat.le_trans k3 line
      have hnd : d.hasDict = true → sysModules ∉ as := fun _ => off (sm.up I.bk)
      have seq : ∀ a, u = .ref a → wpAny (model X.prog X.w) X.A (call (.builtin "repr") [u]) (EP X pins σ Q) X.xe s := fun a ea => by
        subst ea
        exact repr_of_reads' q k1 hnd hg (by omega) (fun _ _ e => e) (fun h' u tk hk => ⟨.str d.shown, H, I.kept (t' := tk) hk, ⟨u, rfl⟩, rout_here ho (.str _)⟩) big
      cases d with
      | none => rw [h.non] at r1; cases r1; exact PySem.P.repr_of_none ⟨.str "None", H, I.tok _, ⟨_, rfl⟩, rout_here ho (.str _)⟩
      | bool b => rw [h.bl] at r1; cases r1; exact PySem.P.repr_of_bool ⟨.str _, H, I.tok _, ⟨_, rfl⟩, rout_here ho (by cases b <;> exact .str _)⟩
      | int i =>
        rw [h.int] at r1
        obtain ⟨t, rfl⟩ := r1
        exact PySem.P.repr_of_int (of_decide_eq_true k1) ⟨.str _, H, I.tok _, ⟨_, rfl⟩, rout_here ho (.str _)⟩
      | str x =>
        rw [h.str] at r1
        obtain ⟨t, rfl⟩ := r1
        exact PySem.P.repr_of_str ⟨.str _, H, I.tok _, ⟨_, rfl⟩, rout_here ho (.str _)⟩ big
      | list xs => obtain ⟨a, vs, rfl, _⟩ := h.lst; exact seq a r1
      | tuple xs => obtain ⟨a, vs, rfl, _⟩ := h.tup; exact seq a r1
      | dict xs => obtain ⟨a, rfl, _⟩ := h.dic; exact seq a r1
    · cases hf
  · cases hf
end
end
section
variable [Wtp] [Tbl]
/-! ## statements -/
inductive Rt where
  | w (x : Wv)
  | f (x : Wv)
  | ft (xs : List Wv)
inductive SR where
  | nx (env : En) (st : Sto)
  | rt (p : Rt) (st : Sto)
  | ex (e : Xc) (st : Sto)
  | no
namespace SR
def post (x : SR) (N : En → Sto → Prop) (R : Rt → Sto → Prop) (W : Xc → Sto → Prop) : Prop := match x with
  | .nx env st => N env st
  | .rt p st => R p st
  | .ex e st => W e st
  | .no => False
@[simp] theorem post_nx (env : En) (st : Sto) (N : En → Sto → Prop) (R : Rt → Sto → Prop) (W : Xc → Sto → Prop) : (SR.nx env st).post N R W = N env st := rfl
@[simp] theorem post_rt (p : Rt) (st : Sto) (N : En → Sto → Prop) (R : Rt → Sto → Prop) (W : Xc → Sto → Prop) : (SR.rt p st).post N R W = R p st := rfl
@[simp] theorem post_ex (p : Xc) (st : Sto) (N : En → Sto → Prop) (R : Rt → Sto → Prop) (W : Xc → Sto → Prop) : (SR.ex p st).post N R W = W p st := rfl
@[simp] theorem post_no (N : En → Sto → Prop) (R : Rt → Sto → Prop) (W : Xc → Sto → Prop) : SR.no.post N R W = False := rfl
theorem post_mono {x : SR} {N N' : En → Sto → Prop} {R R' : Rt → Sto → Prop} {W W' : Xc → Sto → Prop} (h : x.post N R W) (h1 : ∀ a st, N a st → N' a st) (h2 : ∀ a st, R a st → R' a st) (h3 : ∀ a st, W a st → W' a st) : x.post N' R' W' := by
  cases x with
  | nx a st => exact h1 a st h
  | rt a st => exact h2 a st h
  | ex a st => exact h3 a st h
  | no => exact h
/-- what follows -/
def seq (x : SR) (f : En → Sto → SR) : SR := match x with
  | .nx env st => f env st
  | .rt p st => .rt p st
  | .ex e st => .ex e st
  | .no => .no
@[simp] theorem seq_nx (env : En) (st : Sto) (f : En → Sto → SR) : (SR.nx env st).seq f = f env st := rfl
@[simp] theorem seq_rt (p : Rt) (st : Sto) (f : En → Sto → SR) : (SR.rt p st).seq f = .rt p st := rfl
@[simp] theorem seq_ex (p : Xc) (st : Sto) (f : En → Sto → SR) : (SR.ex p st).seq f = .ex p st := rfl
@[simp] theorem seq_no (f : En → Sto → SR) : SR.no.seq f = .no := rfl
theorem post_seq (x : SR) (f : En → Sto → SR) (N : En → Sto → Prop) (R : Rt → Sto → Prop) (W : Xc → Sto → Prop) : (x.seq f).post N R W = x.post (fun env st => (f env st).post N R W) R W := by cases x <;> rfl
end SR
/-- a value, then a statement's end -/
def Rs.sb {α : Type} (x : Rs α) (f : α → Sto → SR) : SR := match x with
  | .ok a st => f a st
  | .ex e st => .ex e st
  | .no => .no
@[simp] theorem Rs.sb_ok {α : Type} (a : α) (st : Sto) (f : α → Sto → SR) : (Rs.ok a st).sb f = f a st := rfl
@[simp] theorem Rs.sb_ex {α : Type} (e : Xc) (st : Sto) (f : α → Sto → SR) : (Rs.ex e st : Rs α).sb f = .ex e st := rfl
@[simp] theorem Rs.sb_no {α : Type} (f : α → Sto → SR) : (Rs.no : Rs α).sb f = .no := rfl
theorem Rs.post_sb {α : Type} (x : Rs α) (f : α → Sto → SR) (N : En → Sto → Prop) (R : Rt → Sto → Prop) (W : Xc → Sto → Prop) : (x.sb f).post N R W = x.post (fun a st => (f a st).post N R W) W := by cases x <;> rfl
def RtR (K : Frg) (H : Hp) (m : Mp) (n : Nat) (v : V) : Rt → Prop
  | .w x => RW K H m n v x
  | .f x => RW K H m n v x
  | .ft xs => ∃ a vs, v = .ref a ∧ H a = some (.tup vs) ∧ RWs K H m n vs xs
def okN (X : Cx) (m : Mp) (n : Nat) (H : Hp) (D : Ends) : En → Sto → Prop := fun env st' => ∀ σ' H' m', Fol m n H m' st'.length H' → Sim X.K H' m' st' → EnvR X.K H' m' st'.length env σ' → D.nx σ' H'
def okR (X : Cx) (m : Mp) (n : Nat) (H : Hp) (D : Ends) : Rt → Sto → Prop := fun p st' => ∀ v H' m', Fol m n H m' st'.length H' → Sim X.K H' m' st' → RtR X.K H' m' st'.length v p → D.rt v H'
def okXs (X : Cx) (W : WX) (m : Mp) (n : Nat) (H : Hp) : Xc → Sto → Prop := fun e st' => ∀ c d σ' H' m', Fol m n H m' st'.length H' → Sim X.K H' m' st' → ExR X.K X.mg H' m' st'.length e c d → W c d σ' H'
def tS (X : Cx) (W : WX) (c : En → Sto → SR) : TS := fun D σ H => ∃ m env st, Sim X.K H m st ∧ EnvR X.K H m st.length env σ ∧ (c env st).post (okN X m st.length H D) (okR X m st.length H D) (okXs X W m st.length H)
structure DS (X : Cx) (e : Stmt) (c : En → Sto → SR) : Prop where
  ps : ∀ W, Takes X W → PS X e (tS X W c)
structure DB (X : Cx) (es : List Stmt) (c : En → Sto → SR) : Prop where
  pss : ∀ W, Takes X W → PSs X es (tS X W c)
def sNil : En → Sto → SR := fun env st => .nx env st
def sSeq (a b : En → Sto → SR) : En → Sto → SR := fun env st => (a env st).seq b
def sSet (i : Nat) (c : En → Sto → Rs Wv) : En → Sto → SR := fun env st => (c env st).sb fun w st1 => .nx (env.set i (some w)) st1
def sRet (c : En → Sto → Rs Wv) : En → Sto → SR := fun env st => (c env st).sb fun w st1 => .rt (.w w) st1
def sRetF (c : En → Sto → Rs Wv) : En → Sto → SR := fun env st => (c env st).sb fun w st1 => .rt (.f w) st1
def sRetT (c : En → Sto → Rs (List Wv)) : En → Sto → SR := fun env st => (c env st).sb fun ws st1 => if ws.length ≤ 1000 then .rt (.ft ws) st1 else .no
def sRetN : En → Sto → SR := fun env st => .rt (.w (.d .none)) st
def sExp (c : En → Sto → Rs Wv) : En → Sto → SR := fun env st => (c env st).sb fun _ st1 => .nx env st1
def sIf (t : En → Sto → Rs Bool) (a b : En → Sto → SR) : En → Sto → SR := fun env st => (t env st).sb fun x st1 => if x then a env st1 else b env st1
def sNo : En → Sto → SR := fun _ _ => .no
section
variable {M : Md} {X : Cx} {B : Tb} {k : Nat} {pins : List (Addr × Obj)} {σ : L2.St} {H : Hp} {s : Shared} {m : Mp} {env : En} {st : Sto} {W : WX} {D : Ends} {pos : Pos}
theorem PS.imp {e : Stmt} {t t' : TS} (h : PS X e t) (q : ∀ D σ H, t' D σ H → t D σ H) : PS X e t' := ⟨fun pins s σ H D I x => h.run pins s σ H D I (q D σ H x)⟩
theorem PSs.imp {e : List Stmt} {t t' : TS} (h : PSs X e t) (q : ∀ D σ H, t' D σ H → t D σ H) : PSs X e t' := ⟨fun pins s σ H D I x => h.run pins s σ H D I (q D σ H x)⟩
theorem okXs.x {n : Nat} {e : Xc} {st' : Sto} (h : okXs X W m n H e st') : okX X W m n H σ e st' := fun c d H' m' f S r => h c d σ H' m' f S r
theorem okXs.tr {m1 : Mp} {n n1 : Nat} {H1 : Hp} {e : Xc} {st' : Sto} (f : Fol m n H m1 n1 H1) (h : okXs X W m n H e st') : okXs X W m1 n1 H1 e st' := fun c d σ' H' m' f' S' r => h c d σ' H' m' (f.trans f') S' r
theorem okN.tr {m1 : Mp} {n n1 : Nat} {H1 : Hp} {e : En} {st' : Sto} (f : Fol m n H m1 n1 H1) (h : okN X m n H D e st') : okN X m1 n1 H1 D e st' := fun σ' H' m' f' S' r => h σ' H' m' (f.trans f') S' r
theorem okR.tr {m1 : Mp} {n n1 : Nat} {H1 : Hp} {e : Rt} {st' : Sto} (f : Fol m n H m1 n1 H1) (h : okR X m n H D e st') : okR X m1 n1 H1 D e st' := fun v H' m' f' S' r => h v H' m' (f.trans f') S' r
/-- a value, then the statement -/
theorem te_sb {c : En → Sto → Rs Wv} {f : En → Wv → Sto → SR} {Q : VK} (S : Sim X.K H m st) (R : EnvR X.K H m st.length env σ) (hp : ((c env st).sb (f env)).post (okN X m st.length H D) (okR X m st.length H D) (okXs X W m st.length H))
    (q : ∀ w st1 v H1 m1, Fol m st.length H m1 st1.length H1 → Sim X.K H1 m1 st1 → EnvR X.K H1 m1 st1.length env σ → RW X.K H1 m1 st1.length v w → (f env w st1).post (okN X m st.length H D) (okR X m st.length H D) (okXs X W m st.length H) → Q v H1) : tE X W c σ H Q := by
  rw [Rs.post_sb] at hp
  exact ⟨m, env, st, S, R, Rs.post_mono hp (fun w st1 h v H1 m1 f1 S1 r1 => q w st1 v H1 m1 f1 S1 (R.mv f1) r1 h) fun _ _ h => h.x⟩
theorem db_nil : DB X [] sNil := ⟨fun W tk => PSs.imp pss_nil fun D σ H ⟨m, env, st, S, R, hp⟩ => hp σ H m .refl S R⟩
theorem db_cons {e : Stmt} {es : List Stmt} {a b : En → Sto → SR} (h1 : DS X e a) (h2 : DB X es b) : DB X (e :: es) (sSeq a b) := by
  refine ⟨fun W tk => PSs.imp (pss_cons (h1.ps W tk) (h2.pss W tk)) fun D σ H ⟨m, env, st, S, R, hp⟩ => ?_⟩
  unfold sSeq at hp
  rw [SR.post_seq] at hp
  exact ⟨m, env, st, S, R, SR.post_mono hp (fun env1 st1 q σ1 H1 m1 f1 S1 R1 => ⟨m1, env1, st1, S1, R1, SR.post_mono q (fun _ _ q => okN.tr f1 q) (fun _ _ q => okR.tr f1 q) fun _ _ q => okXs.tr f1 q⟩) (fun _ _ q => q) fun _ _ q => q⟩
theorem db_one {e : Stmt} {a : En → Sto → SR} (h1 : DS X e a) : DB X [e] a := ⟨fun W tk => pss_one (h1.ps W tk)⟩
theorem ds_set (c : Cxt M X B k) (i : Nat) {x : Str} {e : Expr} {ce : En → Sto → Rs Wv} {pos' : Pos} (hi : B.N[i]? = some x) (hl : i ∈ B.ls) (he : DE X e ce) (hs : swapsWith e (some (.Name x pos')) pos.line X.env = pure false := by rfl) : DS X (.Assign [.Name x pos'] e pos) (sSet i ce) := by
  obtain ⟨l1, l2⟩ := c.loc i hl x hi
  refine ⟨fun W tk => PS.imp (ps_set (by rw [c.hN]; exact c.nd) (by rw [c.hN]; exact hi) l1 (he.pe W tk) hs l2) fun D σ H ⟨m, env, st, S, R, hp⟩ => ?_⟩
  exact te_sb (f := fun env w st1 => .nx (env.set i (some w)) st1) S R hp fun w st1 v H1 m1 f1 S1 R1 r1 q => q _ H1 m1 f1 S1 (R1.set i r1)
theorem ds_ret {e : Expr} {ce : En → Sto → Rs Wv} (he : DE X e ce) : DS X (.Return (some e) pos) (sRet ce) := by
  refine ⟨fun W tk => PS.imp (ps_ret (he.pe W tk)) fun D σ H ⟨m, env, st, S, R, hp⟩ => ?_⟩
  exact te_sb (f := fun env w st1 => .rt (.w w) st1) S R hp fun w st1 v H1 m1 f1 S1 R1 r1 q => q v H1 m1 f1 S1 r1
theorem ds_retf {e : Expr} {ce : En → Sto → Rs Wv} (he : DE X e ce) : DS X (.Return (some e) pos) (sRetF ce) := by
  refine ⟨fun W tk => PS.imp (ps_ret (he.pe W tk)) fun D σ H ⟨m, env, st, S, R, hp⟩ => ?_⟩
  exact te_sb (f := fun env w st1 => .rt (.f w) st1) S R hp fun w st1 v H1 m1 f1 S1 R1 r1 q => q v H1 m1 f1 S1 r1
theorem ds_exp {e : Expr} {ce : En → Sto → Rs Wv} (he : DE X e ce) (hs : swapsWith e none pos.line X.env = pure false := by rfl) : DS X (.Expr e pos) (sExp ce) := by
  refine ⟨fun W tk => PS.imp (ps_expr (he.pe W tk) hs) fun D σ H ⟨m, env, st, S, R, hp⟩ => ?_⟩
  exact te_sb (f := fun env w st1 => .nx env st1) S R hp fun w st1 v H1 m1 f1 S1 R1 r1 q => q σ H1 m1 f1 S1 R1
theorem ds_if {t : Expr} {a b : List Stmt} {ct : En → Sto → Rs Bool} {ca cb : En → Sto → SR} (ht : DT X t ct) (ha : DB X a ca) (hb : DB X b cb) : DS X (.If t a b pos) (sIf ct ca cb) := by
  refine ⟨fun W tk => PS.imp (ps_if (ht.pt W tk) (ha.pss W tk) (hb.pss W tk)) fun D σ H ⟨m, env, st, S, R, hp⟩ => ?_⟩
  unfold sIf at hp
  rw [Rs.post_sb] at hp
  refine ⟨m, env, st, S, R, Rs.post_mono hp (fun x st1 q H1 m1 f1 S1 => ?_) fun _ _ h => h.x⟩
  have go : ∀ {c : En → Sto → SR}, (c env st1).post (okN X m st.length H D) (okR X m st.length H D) (okXs X W m st.length H) → tS X W c D σ H1 := fun q =>
    ⟨m1, env, st1, S1, R.mv f1, SR.post_mono q (fun _ _ q => okN.tr f1 q) (fun _ _ q => okR.tr f1 q) fun _ _ q => okXs.tr f1 q⟩
  cases x with
  | true => exact go q
  | false => exact go q
/-- what is never reached -/
theorem ds_no {e : Stmt} : DS X e sNo := ⟨fun W tk => PS.imp ps_never fun D σ H ⟨m, env, st, S, R, hp⟩ => hp⟩
/-! ### targets -/
/-- σ' is σ but at the slots of S -/
def But (S : List Nat) (σ σ' : L2.St) : Prop := σ'.length = σ.length ∧ ∀ j, j ∉ S → σ'[j]? = σ[j]?
theorem But.refl {S : List Nat} {σ : L2.St} : But S σ σ := ⟨rfl, fun _ _ => rfl⟩
theorem But.set {S : List Nat} {σ : L2.St} {i : Nat} {v : Option V} (h : i ∈ S) : But S σ (σ.set i v) := ⟨by simp, fun j hj => List.getElem?_set_ne (fun e : i = j => hj (e ▸ h))⟩
theorem But.trans {S : List Nat} {σ σ1 σ2 : L2.St} (a : But S σ σ1) (b : But S σ1 σ2) : But S σ σ2 := ⟨b.1.trans a.1, fun j hj => (b.2 j hj).trans (a.2 j hj)⟩
structure DG (X : Cx) (S : List Nat) (tg : Expr) (g : Wv → En → Option En) : Prop where
  pg : PG X tg fun v σ H Q => ∃ m n env w env', RW X.K H m n v w ∧ EnvR X.K H m n env σ ∧ g w env = some env' ∧ ∀ σ', EnvR X.K H m n env' σ' → But S σ σ' → Q σ' H
structure DGs (X : Cx) (S : List Nat) (tg : List Expr) (g : List PyData → En → Option En) : Prop where
  pgs : PGs X tg fun vs σ H Q => ∃ m n env ds env', RpA X.K H (Off m n) vs ds ∧ EnvR X.K H m n env σ ∧ g ds env = some env' ∧ ∀ σ', EnvR X.K H m n env' σ' → But S σ σ' → Q σ' H
def gN (i : Nat) : Wv → En → Option En := fun w env => some (env.set i (some w))
def gTp (g : List PyData → En → Option En) : Wv → En → Option En := fun w env => match w with
  | .d (.tuple xs) => g xs env
  | _ => none
def gNl : List PyData → En → Option En := fun xs env => match xs with
  | [] => some env
  | _ => none
def gCn (g : Wv → En → Option En) (h : List PyData → En → Option En) : List PyData → En → Option En := fun xs env => match xs with
  | x :: r => (g (.d x) env).bind (h r)
  | [] => none
theorem PG.imp {e : Expr} {t t' : TG} (h : PG X e t) (q : ∀ v σ H Q, t' v σ H Q → t v σ H Q) : PG X e t' := ⟨fun pins s σ H v u Q I r x => h.run pins s σ H v u Q I r (q v σ H Q x)⟩
theorem PGs.imp {e : List Expr} {t t' : TGs} (h : PGs X e t) (q : ∀ v σ H Q, t' v σ H Q → t v σ H Q) : PGs X e t' := ⟨fun pins s σ H v u Q I r x => h.run pins s σ H v u Q I r (q v σ H Q x)⟩
theorem dg_name (c : Cxt M X B k) (S : List Nat) (i : Nat) {x : Str} (hi : B.N[i]? = some x) (hl : i ∈ B.ls) (hS : i ∈ S) : DG X S (.Name x pos) (gN i) := by
  obtain ⟨l1, l2⟩ := c.loc i hl x hi
  refine ⟨PG.imp (pg_name (by rw [c.hN]; exact c.nd) (by rw [c.hN]; exact hi) l1 l2) fun v σ H Q ⟨m, n, env, w, env', r, R, e, q⟩ => ?_⟩
  cases e
  exact q _ (R.set i r) (.set hS)
theorem dgs_nil (S : List Nat) : DGs X S [] gNl := by
  refine ⟨PGs.imp pgs_nil fun v σ H Q ⟨m, n, env, ds, env', r, R, e, q⟩ => ?_⟩
  unfold gNl at e
  split at e
  · cases e
    cases r
    exact ⟨rfl, q σ R .refl⟩
  · cases e
theorem dgs_cons {S : List Nat} {e : Expr} {es : List Expr} {g : Wv → En → Option En} {h : List PyData → En → Option En} (h1 : DG X S e g) (h2 : DGs X S es h) (hs : (assignEach (e :: es) X.env).map (·.2) = assign e X.env :: (assignEach es X.env).map (·.2) := by rfl) : DGs X S (e :: es) (gCn g h) := by
  refine ⟨PGs.imp (pgs_cons h1.pg h2.pgs hs) fun v σ H Q ⟨m, n, env, ds, env', r, R, e, q⟩ => ?_⟩
  unfold gCn at e
  split at e
  · rename_i x r'
    cases r with
    | @cons v0 vr _ _ r1 r2 =>
      cases e1 : g (.d x) env with
      | none => rw [e1] at e; cases e
      | some env1 =>
        rw [e1] at e
        exact ⟨v0, vr, rfl, m, n, env, .d x, env1, r1, R, e1, fun σ1 R1 b1 => ⟨m, n, env1, r', env', r2, R1, e, fun σ2 R2 b2 => q σ2 R2 (b1.trans b2)⟩⟩
  · cases e
/-- how many items a target asks -/
def Asks (g : List PyData → En → Option En) (n : Nat) : Prop := ∀ xs env env', g xs env = some env' → xs.length = n
theorem asks_nil : Asks gNl 0 := fun xs env env' h => by
  unfold gNl at h
  split at h
  · rfl
  · cases h
theorem asks_cons {g : Wv → En → Option En} {h : List PyData → En → Option En} {n : Nat} (a : Asks h n) : Asks (gCn g h) (n + 1) := fun xs env env' e => by
  unfold gCn at e
  split at e
  · rename_i x r
    cases e1 : g (.d x) env with
    | none => rw [e1] at e; cases e
    | some env1 => rw [e1] at e; simp [a r env1 env' e]
  · cases e
theorem dg_tup (c : Cxt M X B k) {S : List Nat} {es : List Expr} {j n : Nat} {g : List PyData → En → Option En} (h : DGs X S es g) (a : Asks g n) (hn : (assignEach es X.env).length = n := by rfl) (hst : (assignEach es X.env).findIdx? (·.1) = none := by rfl) : DG X S (.Tuple es j pos) (gTp g) := by
  refine ⟨PG.imp (pg_tup c.calm h.pgs hn hst) fun v σ H Q ⟨m, n', env, w, env', r, R, e, q⟩ => ?_⟩
  unfold gTp at e
  split at e
  · rename_i xs
    cases r with
    | tup h1 h2 => exact ⟨_, _, rfl, h1.sq, by rw [h2.len]; exact a _ _ _ e, m, n', env, xs, env', h2, R, e, q⟩
  · cases e
def sAsg (g : Wv → En → Option En) (c : En → Sto → Rs Wv) : En → Sto → SR := fun env st => (c env st).sb fun w st1 => match g w env with
  | some env' => .nx env' st1
  | none => .no
theorem ds_asg {tg e : Expr} {g : Wv → En → Option En} {ce : En → Sto → Rs Wv} {S0 : List Nat} (he : DE X e ce) (hg : DG X S0 tg g) (hs : swapsWithSole [tg] e pos.line X.env = pure false := by rfl) (hw : swappedStores [tg] e X.env = pure none := by rfl)
    (h1 : (assignEach [tg] X.env).map (·.2) = [assign tg X.env] := by rfl) : DS X (.Assign [tg] e pos) (sAsg g ce) := by
  refine ⟨fun W tk => PS.imp (ps_asg (he.pe W tk) hg.pg hs hw h1) fun D σ H ⟨m, env, st, S, R, hp⟩ => ?_⟩
  refine te_sb (f := fun env w st1 => match g w env with | some env' => .nx env' st1 | none => .no) S R hp fun w st1 v H1 m1 f1 S1 R1 r1 q => ?_
  split at q
  · exact ⟨m1, st1.length, env, w, _, r1, R1, by assumption, fun σ' R' _ => q σ' H1 m1 f1 S1 R'⟩
  · exact q.elim
/-- a, b = x, y of plain names -/
def sPar2 (i j : Nat) (c : En → Sto → Rs (List Wv)) : En → Sto → SR := fun env st => (c env st).sb fun ws st1 => match ws with
  | [v, w] => .nx ((env.set i (some v)).set j (some w)) st1
  | _ => .no
theorem ds_par2 (c : Cxt M X B k) (i j : Nat) {x y : Str} {a b : Expr} {ca : En → Sto → Rs (List Wv)} {px py pt : Pos} {kt : Nat} {k2 : Nat} {pt2 : Pos} (hi : B.N[i]? = some x) (hj : B.N[j]? = some y) (hij : i ≠ j) (hx : X.env.scope.names.lookup x = some .local) (hy : X.env.scope.names.lookup y = some .local) (ha : DA X [a, b] ca)
    (hw : swappedStores [.Tuple [.Name x px, .Name y py] kt pt] (.Tuple [a, b] k2 pt2) X.env = pure (some [x, y])) (hs : swapsWithSole [.Tuple [.Name x px, .Name y py] kt pt] (.Tuple [a, b] k2 pt2) pos.line X.env = pure false := by rfl) :
    DS X (.Assign [.Tuple [.Name x px, .Name y py] kt pt] (.Tuple [a, b] k2 pt2) pos) (sPar2 i j ca) := by
  refine ⟨fun W tk => PS.imp (ps_par c.calm (by rw [c.hN]; exact c.nd) (by rw [c.hN]; exact hi) (by rw [c.hN]; exact hj) hij hx hy (ha.pa W tk) hw hs) fun D σ H ⟨m, env, st, S, R, hp⟩ => ?_⟩
  unfold sPar2 at hp
  rw [Rs.post_sb] at hp
  refine ⟨m, env, st, S, R, Rs.post_mono hp (fun ws st1 q vs H1 m1 f1 S1 r1 => ?_) fun _ _ h => h.x⟩
  split at q
  · cases r1 with
    | cons r1 r2 =>
      cases r2 with
      | cons r2 r3 =>
        cases r3
        exact ⟨_, _, rfl, q _ H1 m1 f1 S1 (((R.mv f1).set i r1).set j r2)⟩
  · exact q.elim
def sPar3 (i j l : Nat) (c : En → Sto → Rs (List Wv)) : En → Sto → SR := fun env st => (c env st).sb fun ws st1 => match ws with
  | [u, v, w] => .nx (((env.set i (some u)).set j (some v)).set l (some w)) st1
  | _ => .no
end
end
section
variable [Wtp] [Tbl]
/-! ## a comprehension's block -/
def Tb.blk (B : Tb) (us ls : List Nat) (gs cs : List Str) : Tb := ⟨B.N, us, ls, [], gs, cs, false, B.gd, B.lq⟩
def kdV : Option NameKind → Bool
  | some .local => true
  | some .cell => true
  | some .free => true
  | _ => false
def kdL : Option NameKind → Bool
  | some .local => true
  | some .cell => true
  | _ => false
def kdC : Option NameKind → Bool
  | some .cell => true
  | some .free => true
  | _ => false
def kdG : Option NameKind → Bool
  | some .globalImplicit => true
  | _ => false
def blkT (B : Tb) (us ls : List Nat) (gs cs : List Str) (sc : Scope) (own : List (Str × Nat)) : Bool :=
  (match sc.kind with | .function => true | _ => false) &&
  ((sc.names.all fun y => decide (sc.names.lookup y.1 = some y.2)) &&
  ((own.all fun p => decide (B.N[p.2]? = some p.1)) &&
  ((sc.names.all fun y => match y.2 with
    | .free => decide (y.1 ∈ B.cs)
    | .local => decide (y.1 ∈ own.map (·.1)) || decide (y.1 ∉ B.N)
    | .cell => decide (y.1 ∈ own.map (·.1)) || decide (y.1 ∉ B.N)
    | _ => true) &&
  ((us.all fun i => match B.N[i]? with | some x => kdV (sc.names.lookup x) | none => true) &&
  ((ls.all fun i => match B.N[i]? with | some x => kdL (sc.names.lookup x) | none => true) &&
  ((gs.all fun x => kdG (sc.names.lookup x)) && (cs.all fun x => kdC (sc.names.lookup x))))))))
section
variable {M : Md} {X : Cx} {B : Tb} {k : Nat} {sc : Scope} {own : List (Str × Nat)} {us ls : List Nat} {gs cs : List Str}
theorem relS_keep {s0 : Scope} {x : Str} {q : NameKind} (h : sc.names.lookup x = some q) (hf : q ≠ .free) : (relS sc s0).names.lookup x = some q := lookup_relS_keep hf h
theorem relS_free {s0 : Scope} : ∀ {names : List (Str × NameKind)} {x : Str}, names.lookup x = some .free →
    (names.map fun (n, k) => if (k == NameKind.free && s0.kind == .function && s0.names.lookup n == some .cell) then (n, NameKind.cell) else (n, k)).lookup x = some .cell ∨
    (names.map fun (n, k) => if (k == NameKind.free && s0.kind == .function && s0.names.lookup n == some .cell) then (n, NameKind.cell) else (n, k)).lookup x = some .free
  | [], _, h => by simp at h
  | (n, q) :: r, x, h => by
    have ih := @relS_free s0 r x
    cases e : x == n with
    | true =>
      simp only [List.lookup_cons, e] at h
      cases h
      simp only [List.map_cons]
      split
      · exact .inl (by simp only [List.lookup_cons, e])
      · exact .inr (by simp only [List.lookup_cons, e])
    | false =>
      simp only [List.lookup_cons, e] at h
      simp only [List.map_cons]
      split
      · rcases ih h with z | z
        · exact .inl (by simp only [List.lookup_cons, e]; exact z)
        · exact .inr (by simp only [List.lookup_cons, e]; exact z)
      · rcases ih h with z | z
        · exact .inl (by simp only [List.lookup_cons, e]; exact z)
        · exact .inr (by simp only [List.lookup_cons, e]; exact z)
theorem vis_rel {s0 : Scope} {x : Str} (h : kdV (sc.names.lookup x) = true) : Vis (relS sc s0) x := by
  unfold kdV at h
  split at h
  · exact .inl (relS_keep (by assumption) (by decide))
  · exact .inr (.inl (relS_keep (by assumption) (by decide)))
  · rename_i e
    rcases relS_free (s0 := s0) e with z | z
    · exact .inr (.inl z)
    · exact .inr (.inr z)
  · cases h
theorem cap_rel {s0 : Scope} {x : Str} (h : kdC (sc.names.lookup x) = true) : (relS sc s0).names.lookup x = some .cell ∨ (relS sc s0).names.lookup x = some .free := by
  unfold kdC at h
  split at h
  · exact .inl (relS_keep (by assumption) (by decide))
  · rename_i e
    exact relS_free (s0 := s0) e
  · cases h
theorem loc_rel {s0 : Scope} {x : Str} (h : kdL (sc.names.lookup x) = true) : Loc (relS sc s0) x ∧ ((sc.names.lookup x == some .cell) = true ∨ (relS sc s0).names.lookup x = some .local) := by
  unfold kdL at h
  split at h
  · rename_i e
    exact ⟨.inl (relS_keep e (by decide)), .inr (relS_keep e (by decide))⟩
  · rename_i e
    exact ⟨.inr (relS_keep e (by decide)), .inl (by rw [e]; rfl)⟩
  · cases h
theorem Cxt.blkOk (c : Cxt M X B k) (h : blkT B us ls gs cs sc own = true) : BlkOk X.N X.env.scope sc own := by
  unfold blkT at h
  simp only [Bool.and_eq_true, List.all_eq_true, decide_eq_true_eq] at h
  obtain ⟨h1, h2, h3, h4, _⟩ := h
  refine ⟨?_, h2, by rw [c.hN]; exact h3, fun y hy e => ?_, fun y hy e => ?_⟩
  · split at h1
    · assumption
    · cases h1
  · have q := h4 y hy
    simp only [e, decide_eq_true_eq] at q
    exact c.cs _ q
  · have q := h4 y hy
    rw [c.hN]
    rcases e with e | e <;> (simp only [e, Bool.or_eq_true, decide_eq_true_eq] at q; exact q)
theorem Cxt.blk (c : Cxt M X B k) (h : blkT B us ls gs cs sc own = true) (s : Shared) (H : Hp) (C : Addr) (cl : List (Str × Addr)) (fp : List Addr) : Cxt M (X.blk s H sc (compEnvC sc cl C X.env) fp) (B.blk us ls gs cs) k := by
  unfold blkT at h
  simp only [Bool.and_eq_true, List.all_eq_true, decide_eq_true_eq] at h
  obtain ⟨h1, h2, h3, h4, h5, h6, h7, h8⟩ := h
  refine ⟨c.hP, c.hw, c.hK, c.mg, c.hb, c.hN, c.nd, c.calm, fun z => (Bool.false_ne_true z).elim, c.room, c.gu, fun i hi x hx => ?_, fun i hi x hx => ?_, fun i hi => absurd hi List.not_mem_nil, fun j x hx => ?_, fun x hx => ?_, fun z => (Bool.false_ne_true z).elim, c.lam, fun z => (Bool.false_ne_true z).elim⟩
  · have q := h5 i hi
    rw [show B.N[i]? = some x from hx] at q
    exact vis_rel q
  · have q := h6 i hi
    rw [show B.N[i]? = some x from hx] at q
    exact loc_rel q
  · have q := h7 x (List.mem_of_getElem? hx)
    unfold kdG at q
    split at q
    · rename_i e
      exact relS_keep e (by decide)
    · cases q
  · exact cap_rel (h8 x hx)
end
/-! ## what is walked -/
structure Sc where
  xs : List PyData
  lv : List (Nat × List PyData)
def lvOk (lv : List (Nat × List PyData)) (st : Sto) : Prop := ∀ p ∈ lv, st[p.1]? = some (.lst p.2)
@[simp] theorem lvOk_nil (st : Sto) : lvOk [] st = True := eq_true fun p hp => absurd hp List.not_mem_nil
theorem lvOk_one (i : Nat) (xs : List PyData) (st : Sto) : lvOk [(i, xs)] st = (st[i]? = some (.lst xs)) := propext ⟨fun h => h (i, xs) (by simp), fun h p hp => by cases List.mem_singleton.mp hp; exact h⟩
theorem lvOk_app (a b : List (Nat × List PyData)) (st : Sto) : lvOk (a ++ b) st = (lvOk a st ∧ lvOk b st) := propext ⟨fun h => ⟨fun p hp => h p (by simp [hp]), fun p hp => h p (by simp [hp])⟩, fun h p hp => (List.mem_append.mp hp).elim (h.1 p) (h.2 p)⟩
structure IsIt (K : Frg) (J : It) (m : Mp) (n : Nat) (H : Hp) (sc : Sc) : Prop where
  go : ∀ i H2 m2 st2, Fol m n H m2 st2.length H2 → Sim K H2 m2 st2 → lvOk sc.lv st2 → i < sc.xs.length → J.go i H2
  stop : ∀ H2 m2 st2, Fol m n H m2 st2.length H2 → Sim K H2 m2 st2 → lvOk sc.lv st2 → J.stop sc.xs.length H2
  yld : ∀ i H2 m2 st2 v H3, Fol m n H m2 st2.length H2 → Sim K H2 m2 st2 → lvOk sc.lv st2 → i < sc.xs.length → J.yld i H2 v H3 → (∀ a o, H2 a = some o → H3 a = some o) ∧ ∃ d, sc.xs[i]? = some d ∧ Rp K H3 (Off m2 st2.length) v d
def tI (X : Cx) (W : WX) (c : En → Sto → Rs Sc) : TI := fun σ H R => ∃ m env st, Sim X.K H m st ∧ EnvR X.K H m st.length env σ ∧
  (c env st).post (fun sc st' => ∀ J H' m', Fol m st.length H m' st'.length H' → Sim X.K H' m' st' → IsIt X.K J m' st'.length H' sc → R J H') (okX X W m st.length H σ)
structure DI (X : Cx) (tg e : Expr) (c : En → Sto → Rs Sc) : Prop where
  pi : ∀ W, Takes X W → PI X tg e (tI X W c)
section
open Classical
/-- the turns of a for -/
noncomputable def forL (g : Wv → En → Option En) (b : En → Sto → SR) (lv : List (Nat × List PyData)) : List PyData → En → Sto → SR
  | [], env, st => if lvOk lv st then .nx env st else .no
  | x :: r, env, st => if lvOk lv st then match g (.d x) env with
      | some env1 => (b env1 st).seq (forL g b lv r)
      | none => .no
    else .no
noncomputable def sFor (c : En → Sto → Rs Sc) (g : Wv → En → Option En) (b : En → Sto → SR) : En → Sto → SR := fun env st => (c env st).sb fun sc st1 => forL g b sc.lv sc.xs env st1
def whL (t : En → Sto → Rs Bool) (b : En → Sto → SR) : Nat → En → Sto → SR
  | 0, _, _ => .no
  | f + 1, env, st => (t env st).sb fun x st1 => if x then (b env st1).seq (whL t b f) else .nx env st1
def sWh (f : Nat) (t : En → Sto → Rs Bool) (b : En → Sto → SR) : En → Sto → SR := whL t b f
def wipeE (env : En) : List Nat → En
  | [] => env
  | i :: vs => (wipeE env vs).set i none
/-- the turns of a comprehension -/
noncomputable def lcL (g : Wv → En → Option En) (t : En → Sto → Rs Bool) (c : En → Sto → Rs Wv) (lv : List (Nat × List PyData)) (env : En) : List PyData → List PyData → Sto → Rs (List PyData)
  | [], acc, st => if lvOk lv st then .ok acc st else .no
  | x :: r, acc, st => if lvOk lv st then match g (.d x) env with
      | some env1 => match t env1 st with
        | .ok true st1 => (match c env1 st1 with
          | .ok (.d y) st2 => lcL g t c lv env r (acc ++ [y]) st2
          | _ => .no)
        | .ok false st1 => lcL g t c lv env r acc st1
        | _ => .no
      | none => .no
    else .no
noncomputable def cLc (ci : En → Sto → Rs Sc) (g : Wv → En → Option En) (t : En → Sto → Rs Bool) (c : En → Sto → Rs Wv) (vs : List Nat) : En → Sto → Rs (List PyData) := fun env st => (ci env st).bind fun sc st1 =>
  if sc.xs.length ≤ 1000000 then lcL g t c sc.lv (wipeE env vs) sc.xs [] st1 else .no
noncomputable def eLc (ci : En → Sto → Rs Sc) (g : Wv → En → Option En) (t : En → Sto → Rs Bool) (c : En → Sto → Rs Wv) (vs : List Nat) : En → Sto → Rs Wv := fun env st => (cLc ci g t c vs env st).bind fun ys st2 => .ok (.d (.list ys)) st2
noncomputable def eLcN (ci : En → Sto → Rs Sc) (g : Wv → En → Option En) (t : En → Sto → Rs Bool) (c : En → Sto → Rs Wv) (vs : List Nat) : En → Sto → Rs Wv := fun env st => (cLc ci g t c vs env st).bind fun ys st2 => .ok (.r st2.length) (st2 ++ [.lst ys])
end
def tYs : En → Sto → Rs Bool := fun _ st => .ok true st
structure DTs (X : Cx) (es : List Expr) (c : En → Sto → Rs Bool) : Prop where
  pts : ∀ W, Takes X W → PTs X es (tT X W c)
section
variable {M : Md} {X : Cx} {B : Tb} {k : Nat} {pins : List (Addr × Obj)} {σ : L2.St} {H : Hp} {s : Shared} {m : Mp} {env : En} {st : Sto} {W : WX} {D : Ends} {pos : Pos}
theorem seq_post {x : SR} {f : En → Sto → SR} {N : En → Sto → Prop} {R : Rt → Sto → Prop} {E : Xc → Sto → Prop} (h : (x.seq f).post N R E) : x.post (fun env st => (f env st).post N R E) R E := by rw [SR.post_seq] at h; exact h
theorem ds_for (c : Cxt M X B k) {tg e : Expr} {body : List Stmt} {ci : En → Sto → Rs Sc} {g : Wv → En → Option En} {cb : En → Sto → SR} (S0 : List Nat) (hi : DI X tg e ci) (hg : DG X S0 tg g) (hb : DB X body cb) (hf : B.fn = true := by rfl)
    (hs : ∀ x, foldedSetIterable e X.env x = pure x := by intro _; rfl) : DS X (.For tg e body [] pos) (sFor ci g cb) := by
  refine ⟨fun W tk => PS.imp (ps_for (c.po hf) c.calm (hi.pi W tk) hg.pg (hb.pss W tk) hs) fun D σ H ⟨m, env, st, S, R, hp⟩ => ?_⟩
  unfold sFor at hp
  rw [Rs.post_sb] at hp
  refine ⟨m, env, st, S, R, Rs.post_mono hp (fun sc st1 q J H1 m1 f1 S1 it => ?_) fun _ _ h => h.x⟩
  generalize hW : (fun (i mm : Nat) (σ' : L2.St) (H' : Hp) => mm = sc.xs.length - i ∧ i ≤ sc.xs.length ∧ ∃ m2 env2 st2, Fol m1 st1.length H1 m2 st2.length H' ∧ Sim X.K H' m2 st2 ∧ EnvR X.K H' m2 st2.length env2 σ' ∧
    (forL g cb sc.lv (sc.xs.drop i) env2 st2).post (okN X m st.length H D) (okR X m st.length H D) (okXs X W m st.length H)) = Wf
  refine ⟨Wf, by rw [← hW]; exact ⟨_, rfl, Nat.zero_le _, m1, env, st1, .refl, S1, R.mv f1, by simpa using q⟩, ?_⟩
  intro i mm σ2 H2 w
  rw [← hW] at w
  obtain ⟨rfl, hi2, m2, env2, st2, f2, S2, R2, q2⟩ := w
  by_cases hlt : i < sc.xs.length
  · rw [List.drop_eq_getElem_cons hlt] at q2
    unfold forL at q2
    split at q2
    · rename_i hl
      split at q2
      · rename_i env3 he3
        refine .inr ⟨it.go i H2 m2 st2 f2 S2 hl hlt, Wf (i + 1) (sc.xs.length - (i + 1)), fun σ' H' z => ⟨_, by omega, z⟩, fun v H3 y => ?_⟩
        obtain ⟨g3, d, hd, r3⟩ := it.yld i H2 m2 st2 v H3 f2 S2 hl hlt y
        rw [List.getElem?_eq_getElem hlt] at hd
        cases hd
        refine ⟨m2, st2.length, env2, .d sc.xs[i], env3, r3, R2.mv (.same g3), he3, fun σ3 R3 _ => ?_⟩
        refine ⟨m2, env3, st2, S2.grow g3, R3, SR.post_mono (seq_post q2) (fun env4 st4 q4 σ4 H4 m4 f4 S4 R4 => ?_) (fun p st4 q4 => ?_) fun e st4 q4 => ?_⟩
        · rw [← hW]; exact ⟨rfl, hlt, m4, env4, st4, (f2.trans (.same g3)).trans f4, S4, R4, q4⟩
        · exact okR.tr ((f1.trans f2).trans (.same g3)) q4
        · exact okXs.tr ((f1.trans f2).trans (.same g3)) q4
      · exact q2.elim
    · exact q2.elim
  · have e : i = sc.xs.length := by omega
    subst e
    rw [List.drop_length] at q2
    unfold forL at q2
    split at q2
    · rename_i hl
      exact .inl ⟨it.stop H2 m2 st2 f2 S2 hl, q2 σ2 H2 m2 (f1.trans f2) S2 R2⟩
    · exact q2.elim
theorem ds_wh (c : Cxt M X B k) {t : Expr} {body : List Stmt} {ct : En → Sto → Rs Bool} {cb : En → Sto → SR} (f : Nat) (ht : DT X t ct) (hb : DB X body cb) (hf : B.fn = true := by rfl) : DS X (.While t body [] pos) (sWh f ct cb) := by
  refine ⟨fun W tk => PS.imp (ps_while (c.po hf) (ht.pt W tk) (hb.pss W tk)) fun D σ H ⟨m, env, st, S, R, hp⟩ => ?_⟩
  generalize hW : (fun (mm : Nat) (σ' : L2.St) (H' : Hp) => ∃ m2 env2 st2, Fol m st.length H m2 st2.length H' ∧ Sim X.K H' m2 st2 ∧ EnvR X.K H' m2 st2.length env2 σ' ∧
    (whL ct cb mm env2 st2).post (okN X m st.length H D) (okR X m st.length H D) (okXs X W m st.length H)) = Wf
  refine ⟨Wf, by rw [← hW]; exact ⟨f, m, env, st, .refl, S, R, hp⟩, ?_⟩
  intro mm σ2 H2 w
  rw [← hW] at w
  obtain ⟨m2, env2, st2, f2, S2, R2, q2⟩ := w
  cases mm with
  | zero => exact q2.elim
  | succ mm =>
    unfold whL at q2
    rw [Rs.post_sb] at q2
    refine ⟨m2, env2, st2, S2, R2, Rs.post_mono q2 (fun x st3 q3 H3 m3 f3 S3 => ?_) fun e st3 h => (okXs.tr f2 h).x⟩
    cases x with
    | true =>
      refine ⟨Wf mm, fun σ' H' z => ⟨mm, Nat.lt_succ_self _, z⟩, m3, env2, st3, S3, R2.mv f3, SR.post_mono (seq_post q3) (fun env4 st4 q4 σ4 H4 m4 f4 S4 R4 => ?_) (fun p st4 q4 => ?_) fun e st4 q4 => ?_⟩
      · rw [← hW]; exact ⟨m4, env4, st4, (f2.trans f3).trans f4, S4, R4, q4⟩
      · exact okR.tr (f2.trans f3) q4
      · exact okXs.tr (f2.trans f3) q4
    | false => exact q3 σ2 H3 m3 (f2.trans f3) S3 (R2.mv f3)
theorem EnvR.unset {K : Frg} {n : Nat} (h : EnvR K H m n env σ) (i : Nat) : EnvR K H m n (env.set i none) (σ.set i none) := by
  refine ⟨by simp [h.len], fun j u e => ?_⟩
  by_cases q : i = j
  · subst q
    by_cases l : i < env.length
    · rw [List.getElem?_set_self l] at e; cases e
    · rw [List.getElem?_eq_none (by simpa using l)] at e; cases e
  · rw [List.getElem?_set_ne q] at e
    obtain ⟨x, h1, h2⟩ := h.at' j u e
    exact ⟨x, by rw [List.getElem?_set_ne q]; exact h1, h2⟩
theorem EnvR.wipe {K : Frg} {n : Nat} (h : EnvR K H m n env σ) : ∀ vs : List Nat, EnvR K H m n (wipeE env vs) (wipe σ vs)
  | [] => h
  | i :: vs => (EnvR.wipe h vs).unset i
theorem wipe_len (σ : L2.St) : ∀ vs : List Nat, (L2.wipe σ vs).length = σ.length
  | [] => rfl
  | i :: vs => by simp [L2.wipe, wipe_len σ vs]
theorem wipe_in {σ : L2.St} {i : Nat} : ∀ {vs : List Nat}, i ∈ vs → i < σ.length → (L2.wipe σ vs)[i]? = some none
  | j :: vs, h, l => by
    show ((L2.wipe σ vs).set j none)[i]? = some none
    by_cases e : j = i
    · subst e; exact List.getElem?_set_self (by rw [wipe_len]; exact l)
    · rw [List.getElem?_set_ne e]
      exact wipe_in ((List.mem_cons.mp h).resolve_left fun z => e z.symm) l
theorem But.wipe {S : List Nat} {vs : List Nat} {σ σ2 : L2.St} (b : But S (L2.wipe σ vs) σ2) (h : ∀ i ∈ S, i ∈ vs) : L2.wipe σ2 vs = L2.wipe σ vs := by
  have hl : σ2.length = σ.length := b.1.trans (wipe_len σ vs)
  refine List.ext_getElem? fun i => ?_
  by_cases q : i ∈ vs
  · by_cases l : i < σ.length
    · rw [wipe_in q (by rw [hl]; exact l), wipe_in q l]
    · rw [List.getElem?_eq_none (by rw [wipe_len, hl]; omega), List.getElem?_eq_none (by rw [wipe_len]; omega)]
  · rw [wipe_out q, b.2 i fun z => q (h i z)]
theorem dts_nil : DTs X [] tYs := ⟨fun W tk => ⟨fun pins s σ H Q I ⟨m, env, st, S, R, hp⟩ => pts_nil.run pins s σ H Q I (hp H m .refl S)⟩⟩
def Wno : WX := fun _ _ _ _ => False
theorem takes_no {X : Cx} : Takes X Wno := fun u s' ⟨a, B, sI, pins, σ, H, cls, d, e, I, nb, up, sky, na, os, ag, w⟩ => w.elim
/-- D is being made -/
def Mp.with (m : Mp) (D : Addr) : Mp := ⟨m.ix, fun a => m.F a ∨ a = D⟩
def Mp.done (m : Mp) (D : Addr) : Mp := ⟨m.ix, fun a => m.F a ∧ a ≠ D⟩
theorem Sim.sub {K : Frg} {m' : Mp} (S : Sim K H m st) (hi : m'.ix = m.ix) (hF : ∀ a, m'.F a → m.F a) : Sim K H m' st := by
  have kp : Kp K H (Off m st.length) H (Off m' st.length) := ⟨fun _ _ h => h, fun _ _ _ h => h, fun a o _ h z => ⟨h, by rw [hi]; exact z.1, fun q => z.2 (hF a q)⟩⟩
  refine ⟨fun i o e => ?_, fun i j => by rw [hi]; exact S.inj i j, fun a q => S.ff a (hF a q), fun i h q => S.fi i h (by rw [hi] at q; exact hF _ q), S.tb⟩
  have h := S.ob i o e
  rw [hi]
  cases o with
  | lst xs => obtain ⟨vs, h1, h2⟩ := h; exact ⟨vs, h1, h2.mv kp⟩
  | dct kvs => obtain ⟨vs, h1, h2⟩ := h; exact ⟨vs, h1, RpK.kp kp _ _ h2⟩
  | dtt kvs => obtain ⟨vs, h1, h2⟩ := h; exact ⟨vs, h1, RpT.kp kp _ _ h2⟩
  | lkd es => exact Rp.mv h kp
  | lkl xs => exact FzL.mv h kp
theorem off_done {n : Nat} {D : Addr} : ∀ a, Off m n a → Off (m.done D) n a := fun a z => ⟨z.1, fun q => z.2 q.1⟩
theorem Sim.start {K : Frg} {D : Addr} {o : HO} (S : Sim K H m st) (hn : H D = none) (nt : NT o := by exact fun _ z => nomatch z) : Sim K (upd H D o) (m.with D) st ∧ Fol m st.length H (m.with D) st.length (upd H D o) := by
  have g := grow_upd (o := o) hn
  have f : Fol m st.length H (m.with D) st.length (upd H D o) := ⟨fun a _ h => g a _ h, fun a _ _ h => g a _ h, fun a _ _ h _ => g a _ h, fun _ _ => rfl, fun i a b => absurd b (by omega), Nat.le_refl _, domOf g, fun a h =>
    ⟨fun q => q.resolve_right fun e => nn_no hn (e ▸ h), fun q => .inl q⟩⟩
  refine ⟨⟨fun i o e => (S.ob i o e).mv f fun u => g _ u, S.inj, fun a q => ?_, fun i hi q => ?_, S.tb.ext g⟩, f⟩
  · rcases q with q | q
    · exact domOf g a (S.ff a q)
    · rw [q]; exact ⟨o, upd_same, nt⟩
  · rcases q with q | q
    · exact S.fi i hi q
    · exact nn_no hn (by have := S.there hi; rwa [show m.ix i = D from q] at this)
theorem Fol.done {n n2 : Nat} {m2 : Mp} {H2 : Hp} {D : Addr} (f : Fol m n H m2 n2 H2) (hn : ¬ Nn H D) : Fol m n H (m2.done D) n2 H2 :=
  ⟨f.tup, f.frz, f.rest, f.old, f.new, f.le, f.dom, fun a h => ⟨fun q => (f.eF a h).mp q.1, fun q => ⟨(f.eF a h).mpr q, fun e => hn (e ▸ h)⟩⟩⟩
/-- one more item -/
theorem _root_.LamX.Tabs.wr {T : List (Addr × Str)} {D : Addr} {o o' : HO} (t : LamX.Tabs T H) (hD : H D = some o) (ho : (∃ xs, o = .lst xs) ∨ (∃ kvs, o = .dK kvs) ∨ ∃ kvs, o = .dT kvs) : LamX.Tabs T (upd H D o') := fun p hp => by
  obtain ⟨ps, h1, h2, h3⟩ := t p hp
  refine ⟨ps, ?_, h2, fun pos cv hc => ?_⟩
  · rw [upd_ne]; exact h1
    intro e; rw [e, hD] at h1
    rcases ho with ⟨_, rfl⟩ | ⟨_, rfl⟩ | ⟨_, rfl⟩ <;> cases h1
  · obtain ⟨c, e, hq⟩ := h3 pos cv hc
    refine ⟨c, e, ?_⟩
    rw [upd_ne]; exact hq
    intro e2; rw [e2, hD] at hq
    rcases ho with ⟨_, rfl⟩ | ⟨_, rfl⟩ | ⟨_, rfl⟩ <;> cases hq
theorem Kp.push {K : Frg} {n : Nat} {D : Addr} {xs ys : List V} (hF : m.F D) (hD : H D = some (.lst ys)) : Kp K H (Off m n) (upd H D (.lst xs)) (Off m n) := by
  refine ⟨fun a us h => ?_, fun a o u h => ?_, fun a o _ h z => ⟨?_, z⟩⟩
  · rw [upd_ne]; exact h
    intro e; rw [e, hD] at h; cases h
  · rw [upd_ne]; exact h
    intro e; rw [e, hD] at h; cases h
  · rw [upd_ne]; exact h
    exact fun e => z.2 (e ▸ hF)
theorem Sim.push {K : Frg} {D : Addr} {xs ys : List V} (S : Sim K H m st) (hF : m.F D) (hD : H D = some (.lst ys)) : Sim K (upd H D (.lst xs)) m st := by
  have kp := Kp.push (K := K) (n := st.length) (xs := xs) hF hD
  refine ⟨fun i u e => ?_, S.inj, fun a z => ?_, S.fi, S.tb.wr hD (.inl ⟨_, rfl⟩)⟩
  · have h := S.ob i u e
    have hi : i < st.length := (List.getElem?_eq_some_iff.mp e).1
    have hx : m.ix i ≠ D := fun e => S.fi i hi (e ▸ hF)
    cases u with
    | lst xs => obtain ⟨vs, h1, h2⟩ := h; exact ⟨vs, by rw [upd_ne hx]; exact h1, h2.mv kp⟩
    | dct kvs => obtain ⟨vs, h1, h2⟩ := h; exact ⟨vs, by rw [upd_ne hx]; exact h1, RpK.kp kp _ _ h2⟩
    | dtt kvs => obtain ⟨vs, h1, h2⟩ := h; exact ⟨vs, by rw [upd_ne hx]; exact h1, RpT.kp kp _ _ h2⟩
    | lkd es => exact Rp.mv h kp
    | lkl xs => exact FzL.mv h kp
  · by_cases e : a = D
    · rw [e]; exact ⟨_, upd_same, nt_lst⟩
    · obtain ⟨o, h, nt⟩ := S.ff a z
      exact ⟨o, by rw [upd_ne e]; exact h, nt⟩
theorem Fol.done2 {n n2 : Nat} {m2 : Mp} {H2 : Hp} (D : Addr) (f : Fol m n H m2 n2 H2) : Fol (m.done D) n H (m2.done D) n2 H2 :=
  ⟨f.tup, f.frz, f.rest, f.old, f.new, f.le, f.dom, fun a h => and_congr (f.eF a h) Iff.rfl⟩
theorem Fol.updD {n n2 : Nat} {m2 : Mp} {H2 : Hp} {D : Addr} {o : HO} (f : Fol m n H m2 n2 H2) (hn : ¬ Nn H D) (nt : NT o := by exact fun _ z => nomatch z) : Fol m n H m2 n2 (upd H2 D o) := by
  have nd : ∀ {a o}, H a = some o → NT o → a ≠ D := fun h nt e => hn ⟨_, e ▸ h, nt⟩
  exact ⟨fun a xs h => by rw [upd_ne (nd h fun _ z => nomatch z)]; exact f.tup a xs h, fun a o u h => by rw [upd_ne (nd h fun _ z => nomatch z)]; exact f.frz a o u h, fun a o nt h z => by rw [upd_ne (nd h nt)]; exact f.rest a o nt h z, f.old, f.new, f.le, fun a h => by
    by_cases e : a = D
    · rw [e]; exact ⟨_, upd_same, nt⟩
    · obtain ⟨o2, h2, nt2⟩ := f.dom a h
      exact ⟨o2, by rw [upd_ne e]; exact h2, nt2⟩
  , f.eF⟩
theorem Fol.undone {n n2 : Nat} {m2 : Mp} {H2 : Hp} {D : Addr} (f : Fol m n H (m2.done D) n2 H2) (hn : ¬ Nn H D) : Fol m n H m2 n2 H2 :=
  ⟨f.tup, f.frz, f.rest, f.old, f.new, f.le, f.dom, fun a h => ⟨fun q => (f.eF a h).mp ⟨q, fun e => hn (e ▸ h)⟩, fun q => ((f.eF a h).mpr q).1⟩⟩
/-- a comprehension, the new list at D -/
theorem lc_tLc {ci : En → Sto → Rs Sc} {g : Wv → En → Option En} {t : En → Sto → Rs Bool} {c : En → Sto → Rs Wv} {vs : List Nat} {S0 : List Nat} {tg : TG} {Q : VK} (hS : ∀ i ∈ S0, i ∈ vs)
    (htg : ∀ v σ H Q, (∃ m n env w env', RW X.K H m n v w ∧ EnvR X.K H m n env σ ∧ g w env = some env' ∧ ∀ σ', EnvR X.K H m n env' σ' → But S0 σ σ' → Q σ' H) → tg v σ H Q)
    (S : Sim X.K H m st) (R : EnvR X.K H m st.length env σ)
    (hp : (cLc ci g t c vs env st).post (fun ys st' => ∀ D H' m' xs, ¬ Nn H D → Fol m st.length H (m'.done D) st'.length H' → Sim X.K H' m' st' → m'.F D → H' D = some (.lst xs) → RpA X.K H' (Off m' st'.length) xs ys → Q (.ref D) H') (okX X W m st.length H σ)) :
    tLc (tI X W ci) tg (tT X Wno t) (tE X Wno c) vs σ H Q := by
  unfold cLc at hp
  rw [Rs.post_bind] at hp
  refine ⟨m, env, st, S, R, Rs.post_mono hp (fun sc st1 q J H1 m1 f1 S1 it => ?_) fun _ _ h => h⟩
  split at q
  · rename_i hlen
    intro D hD
    have hD0 : ¬ Nn H D := fun z => nn_no hD (f1.dom D z)
    obtain ⟨S0', f0⟩ := S1.start (D := D) (o := .lst []) hD
    generalize hW : (fun (i mm : Nat) (Hc : Hp) => mm = sc.xs.length - i ∧ i ≤ sc.xs.length ∧ ∃ m2 st2 acc us, Fol m1 st1.length H1 (m2.done D) st2.length Hc ∧ Sim X.K Hc m2 st2 ∧ m2.F D ∧ Hc D = some (.lst us) ∧ RpA X.K Hc (Off m2 st2.length) us acc ∧ acc.length ≤ i ∧
      (lcL g t c sc.lv (wipeE env vs) (sc.xs.drop i) acc st2).post (fun ys st' => ∀ D H' m' xs, ¬ Nn H D → Fol m st.length H (m'.done D) st'.length H' → Sim X.K H' m' st' → m'.F D → H' D = some (.lst xs) → RpA X.K H' (Off m' st'.length) xs ys → Q (.ref D) H') (okX X W m st.length H σ)) = Wf
    refine ⟨Wf, ⟨_, by rw [← hW]; exact ⟨rfl, Nat.zero_le _, m1.with D, st1, [], [], f0.done (nn_no hD), S0', .inr rfl, upd_same, .nil, Nat.le_refl _, by simpa using q⟩⟩, ?_⟩
    intro i mm Hc w
    rw [← hW] at w
    obtain ⟨rfl, hi2, m2, st2, acc, us, f2, S2, F2, hc2, r2, ha2, q2⟩ := w
    by_cases hlt : i < sc.xs.length
    · rw [List.drop_eq_getElem_cons hlt] at q2
      unfold lcL at q2
      split at q2
      · rename_i hl
        split at q2
        · rename_i env3 he3
          refine .inr ⟨it.go i Hc m2 st2 (f2.undone (nn_no hD)) S2 hl hlt, Wf (i + 1) (sc.xs.length - (i + 1)), fun H' z => ⟨_, by omega, z⟩, fun v H3 y => ?_⟩
          obtain ⟨g3, d, hd, r3⟩ := it.yld i Hc m2 st2 v H3 (f2.undone (nn_no hD)) S2 hl hlt y
          rw [List.getElem?_eq_getElem hlt] at hd
          cases hd
          have fe : Fol m st.length H m2 st2.length H3 := (f1.trans (f2.undone (nn_no hD))).trans (.same g3)
          refine htg _ _ _ _ ⟨m2, st2.length, wipeE env vs, .d sc.xs[i], env3, r3, (R.mv fe).wipe vs, he3, fun σ3 R3 b3 => ⟨b3.wipe hS, ?_⟩⟩
          refine ⟨m2, env3, st2, S2.grow g3, R3, ?_⟩
          split at q2
          · rename_i st4 ht4
            rw [ht4]
            intro H4 m4 f4 S4
            rw [if_pos rfl]
            refine ⟨m4, env3, st4, S4, R3.mv f4, ?_⟩
            split at q2
            · rename_i y5 st5 hc5
              rw [hc5]
              intro v5 H5 m5 f5 S5 r5
              have c3 : H3 D = some (.lst us) := g3 _ _ hc2
              have fD : Fol m2 st2.length Hc m5 st5.length H5 := (Fol.same g3).trans (f4.trans f5)
              have nD : ∀ i, i < st2.length → m2.ix i ≠ D := fun i hi e => S2.fi i hi (e ▸ F2)
              have c5 : H5 D = some (.lst us) := fD.rest _ _ nt_lst hc2 nD
              have F5 : m5.F D := (fD.eF D ⟨_, hc2, nt_lst⟩).mpr F2
              have kp : Kp X.K H5 (Off m5 st5.length) (upd H5 D (.lst (us ++ [v5]))) (Off m5 st5.length) := .push F5 c5
              refine ⟨us, c5, ?_, ?_⟩
              · have : us.length = acc.length := r2.len
                have := line_lim
                omega
              · rw [← hW]
                refine ⟨rfl, hlt, m5, st5, acc ++ [y5], us ++ [v5], ?_, S5.push F5 c5, F5, upd_same, ?_, ?_, q2⟩
                · exact (f2.trans (fD.done2 D)).updD (nn_no hD)
                · exact ((r2.mv fD.kp).app (.cons r5 .nil)).mv kp
                · simp; exact ha2
            · exact q2.elim
          · rename_i st4 ht4
            rw [ht4]
            intro H4 m4 f4 S4
            rw [if_neg Bool.false_ne_true]
            have fD : Fol m2 st2.length Hc m4 st4.length H4 := (Fol.same g3).trans f4
            have nD : ∀ i, i < st2.length → m2.ix i ≠ D := fun i hi e => S2.fi i hi (e ▸ F2)
            have c5 : H4 D = some (.lst us) := fD.rest _ _ nt_lst hc2 nD
            have F5 : m4.F D := (fD.eF D ⟨_, hc2, nt_lst⟩).mpr F2
            rw [← hW]
            exact ⟨rfl, hlt, m4, st4, acc, us, f2.trans (fD.done2 D), S4, F5, c5, r2.mv fD.kp, Nat.le_succ_of_le ha2, q2⟩
          · exact q2.elim
        · exact q2.elim
      · exact q2.elim
    · have e : i = sc.xs.length := by omega
      subst e
      rw [List.drop_length] at q2
      unfold lcL at q2
      split at q2
      · rename_i hl
        exact .inl ⟨it.stop Hc m2 st2 (f2.undone (nn_no hD)) S2 hl, q2 D Hc m2 us hD0 ((f1.trans (f2.undone (nn_no hD))).done hD0) S2 F2 hc2 r2⟩
      · exact q2.elim
  · exact q.elim
end
end
section
variable [Wtp] [Tbl]
/-! ## enumerate and zip over lists and tuples of any mix -/
inductive Kd where
  | l
  | t
namespace Kd
def ob : Kd → Addr → Obj
  | l, a => { cls := .type "list_iterator", data := .fields #[.ref a, .int 0 0] }
  | t, a => { cls := .type "tuple_iterator", data := .fields #[.ref a, .int 0 0] }
def it (q : Kd) (h : Heap) (i a : Addr) (n : Nat) : Prop := match q with
  | l => h.IsListIter i a n
  | t => h.IsTupleIter i a n
def here (q : Kd) (h : Heap) (a : Addr) (xs : Array Value) : Prop := match q with
  | l => h.IsList a xs
  | t => h.IsTuple a xs
def sq (q : Kd) (K : Frg) (H : Hp) (a : Addr) (xs : List V) : Prop := match q with
  | l => SqL K H a xs
  | t => SqT K H a xs
section
variable {q : Kd} {h h' : Heap} {i a : Addr} {n : Nat} {xs : Array Value}
theorem begins (q : Kd) (a : Addr) (xs : Array Value) : Begins (.ref a) (q.ob a) fun h => q.here h a xs := by
  cases q with
  | l => exact begins_list a xs
  | t => exact begins_tuple a xs
theorem free (q : Kd) (a : Addr) : (q.ob a).isFreed = false := by cases q <;> rfl
theorem first (e : h.get? i = some (q.ob a)) : q.it h i a 0 := by
  cases q with
  | l => exact ⟨_, e, rfl, rfl⟩
  | t => exact ⟨_, e, rfl, rfl⟩
theorem draws {prog : Program} {w : World} {A : Around} (q : Kd) (hh : A.handled = none) (hne : a ≠ i) (xs : Array Value) : Draws prog w A i [i, a] xs.size (fun j v => xs[j]? = some v) (fun j h => q.it h i a j ∧ q.here h a xs) := by
  cases q with
  | l => exact .list hh i a hne xs
  | t => exact .tuple hh i a hne xs
theorem it_at (s : q.it h i a n) (k : ∀ o, h.get? i = some o → h'.get? i = some o) : q.it h' i a n := by
  cases q with
  | l => exact Heap.IsListIter.at s k
  | t => exact Heap.IsTupleIter.at s k
theorem it_ob (s : q.it h i a n) : ∃ o, h.get? i = some o ∧ ∀ v, o.data ≠ .cell v := by
  cases q with
  | l => obtain ⟨o, e, _, d⟩ := s; exact ⟨o, e, fun v z => by rw [d] at z; cases z⟩
  | t => obtain ⟨o, e, _, d⟩ := s; exact ⟨o, e, fun v z => by rw [d] at z; cases z⟩
end
section
variable {X : Cx} {q : Kd} {pins : List (Addr × Obj)} {σ : L2.St} {H : Hp} {s : Shared} {a : Addr} {xs ys : List V}
theorem of (I : Inv X pins σ H s) (h : q.sq X.K H a xs) : ∃ us : List Value, Vals xs us ∧ q.here s.heap a us.toArray := by
  cases q with
  | l => obtain ⟨us, r, p, _⟩ := I.list h; exact ⟨us, r, p.isList⟩
  | t => obtain ⟨us, r, p, _⟩ := I.tuple h; exact ⟨us, r, p⟩
theorem inj (I : Inv X pins σ H s) (h : q.sq X.K H a xs) (h' : q.sq X.K H a ys) : xs = ys := by
  cases q with
  | l => exact I.list_inj h h'
  | t => exact I.tuple_inj h h'
theorem apart (I : Inv X pins σ H s) {i : Addr} (hf : FpOk X pins H i) {n : Nat} {b : Addr} (st : q.it s.heap i b n) {us : Array Value} {p : Kd} (h : p.here s.heap a us) : a ≠ i := by
  intro e
  subst e
  cases p <;> cases q <;> (obtain ⟨o, e1, c1, _⟩ := h; obtain ⟨o2, e2, c2, d2⟩ := st; rw [e1] at e2; cases e2; rw [c1] at c2; exact absurd c2 (by decide))
end
theorem other {q : Kd} {h : Heap} {a : Addr} {xs : Array Value} {o : Obj} {T : String} (p : q.here h a xs) (e : h.get? a = some o) (c : o.cls = .type T) (h1 : T ≠ "list") (h2 : T ≠ "tuple") : False := by
  cases q with
  | l => obtain ⟨o', e1, c1, _⟩ := p; rw [e] at e1; cases e1; rw [c] at c1; exact h1 (by cases c1; rfl)
  | t => obtain ⟨o', e1, c1, _⟩ := p; rw [e] at e1; cases e1; rw [c] at c1; exact h2 (by cases c1; rfl)
end Kd
/-- a new pair at each turn -/
def JZ (K : Frg) (p q : Kd) (a b : Addr) : It :=
  ⟨fun i H => ∃ xs ys x y, p.sq K H a xs ∧ q.sq K H b ys ∧ xs[i]? = some x ∧ ys[i]? = some y,
   fun i H v H' => ∃ T x y, v = .ref T ∧ H T = none ∧ H' = upd H T (.tup [x, y]) ∧ (∀ xs, p.sq K H a xs → xs[i]? = some x) ∧ ∀ ys, q.sq K H b ys → ys[i]? = some y,
   fun i H => ∃ xs ys, p.sq K H a xs ∧ q.sq K H b ys ∧ i = min xs.length ys.length⟩
def JE (K : Frg) (p : Kd) (a : Addr) : It :=
  ⟨fun i H => ∃ xs x, p.sq K H a xs ∧ xs[i]? = some x,
   fun i H v H' => ∃ T x, v = .ref T ∧ H T = none ∧ H' = upd H T (.tup [.int (i : Nat), x]) ∧ ∀ xs, p.sq K H a xs → xs[i]? = some x,
   fun i H => ∃ xs, p.sq K H a xs ∧ i = xs.length⟩
section
variable {P : Program} {w : World} {K : Frg} {elts : List Expr} {kk : Nat} {tpos : Pos}
theorem turn_JE (p : Kd) (a e i : Addr) (hei : e ≠ i) : Turn P w K (.Tuple elts kk tpos) (JE K p a) [e, i] e (fun n h => (∃ old, IsEnum h e i ((0 : Int) + (n : Int)) old) ∧ p.it h i a n) where
  mem := by simp
  obj := fun n h st b hb => by
    obtain ⟨⟨old, he⟩, hi⟩ := st
    rcases (show b = e ∨ b = i by simpa using hb) with z | z
    · subst z; exact ⟨_, he, fun v q => nomatch q⟩
    · subst z; exact Kd.it_ob hi
  keep := fun n h h' st k => by
    obtain ⟨⟨old, he⟩, hi⟩ := st
    exact ⟨⟨old, k e (by simp) _ he⟩, Kd.it_at hi fun o q => k i (by simp) o q⟩
  item := by
    intro X hP hw hK hc n pins s σ H E I hf st hg
    subst hP hw hK
    obtain ⟨⟨old, he⟩, hi⟩ := st
    obtain ⟨xs, x, hx, ex⟩ := hg
    obtain ⟨us, rv, hu⟩ := Kd.of I hx
    obtain ⟨u, eu, ru⟩ := rv.get ex
    have hai : a ≠ i := Kd.apart I (hf i (by simp)) hi hu
    have hae : a ≠ e := fun z => Kd.other hu (by rw [z]; exact he) rfl (by decide) (by decide)
    have G := GoesN.enumFrom (elts := elts) (x1 := kk) (pos := tpos) 0 (p.draws (prog := X.prog) (w := X.w) (A := X.A.in1) (i := i) (a := a) (show X.A.in1.handled = none from I.ok.hd hc) hai us.toArray) e hei (by simp [hei, Ne.symm hae]) (by simp)
    have hlt : n < us.toArray.size := by have := (List.getElem?_eq_some_iff.mp eu).1; simpa using this
    refine wpAny_mono (G.goes n s (fun v s2 => ∃ x' H', Inv X pins σ H' s2 ∧ RelV x' v ∧ (JE X.K p a).yld n H x' H' ∧ ((∃ old, IsEnum s2.heap e i ((0 : Int) + ((n + 1 : Nat) : Int)) old) ∧ p.it s2.heap i a (n + 1)) ∧ ∀ b ∈ [e, i], H' b = none) E hlt ⟨⟨old, he⟩, hi, hu⟩ fun v h' tk y st' keep _ => ?_) (fun r s1 ⟨v, e1, q⟩ => ⟨v, e1, q⟩) fun _ _ z => z
    obtain ⟨T, t, x2, ev, hT, ex2, hI⟩ := y
    subst ev
    have e2 : x2 = u := by
      have : us[n]? = some x2 := by simpa using ex2
      rw [eu] at this; cases this; rfl
    subst e2
    refine ⟨.ref T, upd H T (.tup [.int (n : Nat), x]), ?_, rfl, ⟨T, x, rfl, I.hok.fresh hT, rfl, fun ys hy => by rw [Kd.inj I hy hx]; exact ex⟩, ⟨st'.1, st'.2.1⟩, fun b hb => ?_⟩
    · refine I.turnedNew (t' := tk) (ch := [e, i]) keep hf hT ⟨by show 2 ≤ sizeLine; decide, [.int (0 + (n : Int)) t, x2], .cons ⟨t, by simp⟩ (.cons ru .nil), hI⟩
    · have hb' : b ≠ T := fun z => by
        obtain ⟨o, eo, _⟩ : ∃ o, s.heap.get? b = some o ∧ True := by
          rcases (show b = e ∨ b = i by simpa using hb) with z | z
          · subst z; exact ⟨_, he, trivial⟩
          · subst z; obtain ⟨o, eo, _⟩ := Kd.it_ob hi; exact ⟨o, eo, trivial⟩
        have := Heap.lt_size eo
        rw [z] at this
        exact absurd hT (Nat.not_le.mpr this)
      rw [upd_ne hb']
      exact (hf b hb).1
  done := by
    intro X hP hw hK hc n pins s σ H E I hf st hg
    subst hP hw hK
    obtain ⟨⟨old, he⟩, hi⟩ := st
    obtain ⟨xs, hx, en⟩ := hg
    obtain ⟨us, rv, hu⟩ := Kd.of I hx
    have hai : a ≠ i := Kd.apart I (hf i (by simp)) hi hu
    have hae : a ≠ e := fun z => Kd.other hu (by rw [z]; exact he) rfl (by decide) (by decide)
    have G := GoesN.enumFrom (elts := elts) (x1 := kk) (pos := tpos) 0 (p.draws (prog := X.prog) (w := X.w) (A := X.A.in1) (i := i) (a := a) (show X.A.in1.handled = none from I.ok.hd hc) hai us.toArray) e hei (by simp [hei, Ne.symm hae]) (by simp)
    have hn : n = us.toArray.size := by have := rv.length; simp; omega
    subst hn
    refine G.stops s (fun s1 => Inv X pins σ H s1) E ⟨⟨old, he⟩, hi, hu⟩ fun h' tk keep _ => ?_
    exact I.turnedL (t' := tk) (ch := [e, i]) keep hf
  self := fun A n s Q E st h => by
    obtain ⟨⟨old, he⟩, _⟩ := st
    exact wpAny_pyIter_enum he h
theorem turn_JZ (p q : Kd) (a b N : Addr) (la : a < N) (lb : b < N) : Turn P w K (.Tuple elts kk tpos) (JZ K p q a b) [N + 4, N + 2, N + 3, N, N + 1] (N + 4) (fun n h => IsZip h (N + 4) (N + 2) (N + 3) .none ∧ IsTupOf2 h (N + 2) (.ref (N)) (.ref (N + 1)) ∧ (∃ u0 u1, IsTupOf2 h (N + 3) u0 u1) ∧ p.it h (N) a n ∧ q.it h (N + 1) b n) where
  mem := by simp
  obj := fun n h st b' hb' => by
    obtain ⟨hz, hI, ⟨u0, u1, hO⟩, h0, h1⟩ := st
    rcases (show b' = N + 4 ∨ b' = N + 2 ∨ b' = N + 3 ∨ b' = N ∨ b' = N + 1 by simpa using hb') with e | e | e | e | e
    · rw [e]; exact ⟨_, hz, fun v q => nomatch q⟩
    · rw [e]; exact ⟨_, hI, fun v q => nomatch q⟩
    · rw [e]; exact ⟨_, hO, fun v q => nomatch q⟩
    · rw [e]; exact Kd.it_ob h0
    · rw [e]; exact Kd.it_ob h1
  keep := fun n h h' st k => by
    obtain ⟨hz, hI, ⟨u0, u1, hO⟩, h0, h1⟩ := st
    exact ⟨k _ (by simp) _ hz, k _ (by simp) _ hI, ⟨u0, u1, k _ (by simp) _ hO⟩, Kd.it_at h0 fun o q => k _ (by simp) o q, Kd.it_at h1 fun o q => k _ (by simp) o q⟩
  item := by
    intro X hP hw hK hc n pins s σ H E I hf st hg
    subst hP hw hK
    obtain ⟨hz, hI, hO, h0, h1⟩ := st
    obtain ⟨xs, ys, x, y, q0, q1, e0, e1⟩ := hg
    obtain ⟨us0, rv0, hu0⟩ := Kd.of I q0
    obtain ⟨us1, rv1, hu1⟩ := Kd.of I q1
    obtain ⟨w0, ew0, rw0⟩ := rv0.get e0
    obtain ⟨w1, ew1, rw1⟩ := rv1.get e1
    have D0 := p.draws (prog := X.prog) (w := X.w) (A := X.A.in1) (i := N) (a := a) (show X.A.in1.handled = none from I.ok.hd hc) (by have := la; intro e; rw [e] at this; exact absurd this (Nat.not_lt.mpr (by simp))) us0.toArray
    have D1 := q.draws (prog := X.prog) (w := X.w) (A := X.A.in1) (i := N + 1) (a := b) (show X.A.in1.handled = none from I.ok.hd hc) (by have := lb; intro e; rw [e] at this; exact absurd this (Nat.not_lt.mpr (by simp))) us1.toArray
    have G := GoesN.zip2 (elts := elts) (x1 := kk) (pos := tpos) (zip_sep2 (N := N) (fp1 := [a]) (fun d hd => by rw [List.mem_singleton.mp hd]; exact la) (fp2 := [b]) (fun d hd => by rw [List.mem_singleton.mp hd]; exact lb)) D0 D1
    have hlt : n < min us0.toArray.size us1.toArray.size := by
      have l0 := (List.getElem?_eq_some_iff.mp ew0).1
      have l1 := (List.getElem?_eq_some_iff.mp ew1).1
      simp; omega
    refine wpAny_mono (G.goes n s (fun v s2 => ∃ x' H', Inv X pins σ H' s2 ∧ RelV x' v ∧ (JZ X.K p q a b).yld n H x' H' ∧ (IsZip s2.heap (N + 4) (N + 2) (N + 3) .none ∧ IsTupOf2 s2.heap (N + 2) (.ref (N)) (.ref (N + 1)) ∧ (∃ u0 u1, IsTupOf2 s2.heap (N + 3) u0 u1) ∧ p.it s2.heap (N) a (n + 1) ∧ q.it s2.heap (N + 1) b (n + 1)) ∧ ∀ b ∈ [N + 4, N + 2, N + 3, N, N + 1], H' b = none) E hlt ⟨hz, hI, hO, ⟨h0, hu0⟩, ⟨h1, hu1⟩⟩ fun v h' tk y st' keep _ => ?_) (fun r s1 ⟨v, e1, q⟩ => ⟨v, e1, q⟩) fun _ _ z => z
    obtain ⟨T, x2, y2, ev, hT, k0, k1, hI2⟩ := y
    subst ev
    have v0 : x2 = w0 := by
      have : us0[n]? = some x2 := by simpa using k0
      rw [ew0] at this; cases this; rfl
    subst v0
    have v1 : y2 = w1 := by
      have : us1[n]? = some y2 := by simpa using k1
      rw [ew1] at this; cases this; rfl
    subst v1
    obtain ⟨z', I', O', g0, g1⟩ := st'
    refine ⟨.ref T, upd H T (.tup [x, y]), ?_, rfl, ⟨T, x, y, rfl, I.hok.fresh hT, rfl, fun l hl => by rw [Kd.inj I hl q0]; exact e0, fun l hl => by rw [Kd.inj I hl q1]; exact e1⟩, ⟨z', I', O', g0.1, g1.1⟩, fun b' hb' => ?_⟩
    · refine I.turnedNew (t' := tk) (ch := [N + 4, N + 3, N, N + 1]) keep (fun b' hb' => hf b' (by rcases (show b' = N + 4 ∨ b' = N + 3 ∨ b' = N ∨ b' = N + 1 by simpa using hb') with e | e | e | e <;> (rw [e]; simp))) hT ⟨by show 2 ≤ sizeLine; decide, [x2, y2], .cons rw0 (.cons rw1 .nil), hI2⟩
    · have ne : b' ≠ T := fun e => by
        have : ∃ o, s.heap.get? b' = some o := by
          rcases (show b' = N + 4 ∨ b' = N + 2 ∨ b' = N + 3 ∨ b' = N ∨ b' = N + 1 by simpa using hb') with e | e | e | e | e
          · rw [e]; exact ⟨_, hz⟩
          · rw [e]; exact ⟨_, hI⟩
          · obtain ⟨u0, u1, hO⟩ := hO; rw [e]; exact ⟨_, hO⟩
          · rw [e]; obtain ⟨o, eo, _⟩ := Kd.it_ob h0; exact ⟨o, eo⟩
          · rw [e]; obtain ⟨o, eo, _⟩ := Kd.it_ob h1; exact ⟨o, eo⟩
        obtain ⟨o, eo⟩ := this
        have := Heap.lt_size eo
        rw [e] at this
        exact absurd hT (Nat.not_le.mpr this)
      rw [upd_ne ne]
      exact (hf b' hb').1
  done := by
    intro X hP hw hK hc n pins s σ H E I hf st hg
    subst hP hw hK
    obtain ⟨hz, hI, hO, h0, h1⟩ := st
    obtain ⟨xs, ys, q0, q1, en⟩ := hg
    obtain ⟨us0, rv0, hu0⟩ := Kd.of I q0
    obtain ⟨us1, rv1, hu1⟩ := Kd.of I q1
    have D0 := p.draws (prog := X.prog) (w := X.w) (A := X.A.in1) (i := N) (a := a) (show X.A.in1.handled = none from I.ok.hd hc) (by have := la; intro e; rw [e] at this; exact absurd this (Nat.not_lt.mpr (by simp))) us0.toArray
    have D1 := q.draws (prog := X.prog) (w := X.w) (A := X.A.in1) (i := N + 1) (a := b) (show X.A.in1.handled = none from I.ok.hd hc) (by have := lb; intro e; rw [e] at this; exact absurd this (Nat.not_lt.mpr (by simp))) us1.toArray
    have G := GoesN.zip2 (elts := elts) (x1 := kk) (pos := tpos) (zip_sep2 (N := N) (fp1 := [a]) (fun d hd => by rw [List.mem_singleton.mp hd]; exact la) (fp2 := [b]) (fun d hd => by rw [List.mem_singleton.mp hd]; exact lb)) D0 D1
    have hn : n = min us0.toArray.size us1.toArray.size := by
      have l0 := rv0.length
      have l1 := rv1.length
      simp; omega
    subst hn
    refine G.stops s (fun s1 => Inv X pins σ H s1) E ⟨hz, hI, hO, ⟨h0, hu0⟩, ⟨h1, hu1⟩⟩ fun h' tk keep _ => ?_
    exact I.turnedL (t' := tk) (ch := [N + 4, N + 3, N, N + 1]) keep (fun b' hb' => hf b' (by rcases (show b' = N + 4 ∨ b' = N + 3 ∨ b' = N ∨ b' = N + 1 by simpa using hb') with e | e | e | e <;> (rw [e]; simp)))
  self := fun A n s Q E st h => wpAny_pyIter_zip st.1 h
end
end
section
variable [Wtp] [Tbl]
/-! ## the sources of a loop -/
def seqW (w : Wv) (st : Sto) : Option Sc := match w with
  | .d (.list xs) => some ⟨xs, []⟩
  | .d (.tuple xs) => some ⟨xs, []⟩
  | .r i => match st[i]? with
    | some (.lst xs) => some ⟨xs, [(i, xs)]⟩
    | _ => none
  | _ => none
@[simp] theorem seqW_list (xs : List PyData) (st : Sto) : seqW (.d (.list xs)) st = some ⟨xs, []⟩ := rfl
@[simp] theorem seqW_tuple (xs : List PyData) (st : Sto) : seqW (.d (.tuple xs)) st = some ⟨xs, []⟩ := rfl
def sgnD (c : Nat) : PyData := .str ⟨#[c]⟩
def cSeq (c : En → Sto → Rs Wv) : En → Sto → Rs Sc := fun env st => (c env st).bind fun w st1 => match w with
  | .d (.str x) => .ok ⟨x.cps.toList.map sgnD, []⟩ st1
  | .d (.dict es) => .ok ⟨es.map (·.1), []⟩ st1
  | w => match seqW w st1 with
    | some sc => .ok sc st1
    | none => .no
def pairD (x y : PyData) : PyData := .tuple [x, y]
def zip3 : List PyData → List PyData → List PyData → List PyData
  | x :: xs, y :: ys, z :: zs => .tuple [x, y, z] :: zip3 xs ys zs
  | _, _, _ => []
def cZip2 (cs : En → Sto → Rs (List Wv)) : En → Sto → Rs Sc := fun env st => (cs env st).bind fun ws st1 => match ws with
  | [u, v] => match seqW u st1, seqW v st1 with
    | some a, some b => .ok ⟨List.zipWith pairD a.xs b.xs, a.lv ++ b.lv⟩ st1
    | _, _ => .no
  | _ => .no
def cZip3 (cs : En → Sto → Rs (List Wv)) : En → Sto → Rs Sc := fun env st => (cs env st).bind fun ws st1 => match ws with
  | [u, v, w] => match seqW u st1, seqW v st1, seqW w st1 with
    | some a, some b, some c => .ok ⟨zip3 a.xs b.xs c.xs, (a.lv ++ b.lv) ++ c.lv⟩ st1
    | _, _, _ => .no
  | _ => .no
def enumD (xs : List PyData) : List PyData := xs.mapIdx fun i x => .tuple [.int (i : Nat), x]
def cEnum (cs : En → Sto → Rs (List Wv)) : En → Sto → Rs Sc := fun env st => (cs env st).bind fun ws st1 => match ws with
  | [u] => match seqW u st1 with
    | some a => .ok ⟨enumD a.xs, a.lv⟩ st1
    | _ => .no
  | _ => .no
def rangeD (lo : Int) (n : Nat) : List PyData := (List.range n).map fun i => .int (lo + (i : Nat))
def downD (lo : Int) (n : Nat) : List PyData := (List.range n).map fun i => .int (lo - (i : Nat))
def rgOk (i : Int) : Bool := decide (-(2 ^ 62) ≤ i) && decide (i < 2 ^ 62)
def cRg1 (cs : En → Sto → Rs (List Wv)) : En → Sto → Rs Sc := fun env st => (cs env st).bind fun ws st1 => match ws with
  | [.d (.int j)] => if rgOk j then .ok ⟨rangeD 0 j.toNat, []⟩ st1 else .no
  | _ => .no
def cRg2 (cs : En → Sto → Rs (List Wv)) : En → Sto → Rs Sc := fun env st => (cs env st).bind fun ws st1 => match ws with
  | [.d (.int i), .d (.int j)] => if rgOk i && rgOk j then .ok ⟨rangeD i (j - i).toNat, []⟩ st1 else .no
  | _ => .no
def cRgD (cs : En → Sto → Rs (List Wv)) : En → Sto → Rs Sc := fun env st => (cs env st).bind fun ws st1 => match ws with
  | [.d (.int i), .d (.int j), .d (.int (-1))] => if rgOk i && rgOk j then .ok ⟨downD i (i - j).toNat, []⟩ st1 else .no
  | _ => .no
/-- what stands at a stays -/
structure HoldsAt (K : Frg) (m : Mp) (n : Nat) (H : Hp) (sc : Sc) (q : Kd) (a : Addr) : Prop where
  at' : ∀ H2 m2 st2, Fol m n H m2 st2.length H2 → Sim K H2 m2 st2 → lvOk sc.lv st2 → ∃ us, q.sq K H2 a us ∧ RpA K H2 (Off m2 st2.length) us sc.xs
section
variable {K : Frg} {m : Mp} {H : Hp} {st : Sto} {n : Nat}
theorem seqW_at {v : V} {w : Wv} {sc : Sc} (S : Sim K H m st) (r : RW K H m st.length v w) (e : seqW w st = some sc) : ∃ a q, v = .ref a ∧ HoldsAt K m st.length H sc q a := by
  unfold seqW at e
  split at e
  · cases e
    cases r with
    | lst h1 h2 => exact ⟨_, .l, rfl, ⟨fun H2 m2 st2 f S2 _ => ⟨_, (f.kp.ls h1).sq, h2.mv f.kp⟩⟩⟩
  · cases e
    cases r with
    | tup h1 h2 => exact ⟨_, .t, rfl, ⟨fun H2 m2 st2 f S2 _ => ⟨_, f.kp.sqt h1.sq, h2.mv f.kp⟩⟩⟩
  · split at e
    · rename_i i _ xs e1
      cases e
      refine ⟨m.ix i, .l, r.2, ⟨fun H2 m2 st2 f S2 l => ?_⟩⟩
      rw [lvOk_one] at l
      obtain ⟨us, h1, h2⟩ := S2.ob i _ l
      rw [f.old i r.1] at h1
      exact ⟨us, .inl (.inl h1), h2⟩
    · cases e
  · cases e
theorem isit_l {sc : Sc} {a : Addr} (h : HoldsAt K m n H sc .l a) : IsIt K (Itl K a) m n H sc := by
  refine ⟨fun i H2 m2 st2 f S l hi => ?_, fun H2 m2 st2 f S l => ?_, fun i H2 m2 st2 v H3 f S l hi y => ?_⟩
  · obtain ⟨us, q, r⟩ := h.at' H2 m2 st2 f S l
    obtain ⟨v, hv, _⟩ := r.get (List.getElem?_eq_getElem hi)
    exact ⟨us, v, q, hv⟩
  · obtain ⟨us, q, r⟩ := h.at' H2 m2 st2 f S l
    exact ⟨us, q, Nat.le_of_eq r.len⟩
  · obtain ⟨us, q, r⟩ := h.at' H2 m2 st2 f S l
    obtain ⟨rfl, y⟩ := y
    obtain ⟨v', hv, rv⟩ := r.get (List.getElem?_eq_getElem hi)
    have := y us q
    rw [hv] at this
    cases this
    exact ⟨fun _ _ h => h, _, List.getElem?_eq_getElem hi, rv⟩
theorem isit_t {sc : Sc} {a : Addr} (h : HoldsAt K m n H sc .t a) : IsIt K (Itt K a) m n H sc := by
  refine ⟨fun i H2 m2 st2 f S l hi => ?_, fun H2 m2 st2 f S l => ?_, fun i H2 m2 st2 v H3 f S l hi y => ?_⟩
  · obtain ⟨us, q, r⟩ := h.at' H2 m2 st2 f S l
    obtain ⟨v, hv, _⟩ := r.get (List.getElem?_eq_getElem hi)
    exact ⟨us, v, q, hv⟩
  · obtain ⟨us, q, r⟩ := h.at' H2 m2 st2 f S l
    exact ⟨us, q, Nat.le_of_eq r.len⟩
  · obtain ⟨us, q, r⟩ := h.at' H2 m2 st2 f S l
    obtain ⟨rfl, y⟩ := y
    obtain ⟨v', hv, rv⟩ := r.get (List.getElem?_eq_getElem hi)
    have := y us q
    rw [hv] at this
    cases this
    exact ⟨fun _ _ h => h, _, List.getElem?_eq_getElem hi, rv⟩
theorem isit_s {x : Str} : IsIt K (Its x) m n H ⟨x.cps.toList.map sgnD, []⟩ := by
  refine ⟨fun i H2 m2 st2 f S l hi => by show i < x.cps.size; simpa using hi, fun H2 m2 st2 f S l => by show x.cps.size ≤ _; simp, fun i H2 m2 st2 v H3 f S l hi y => ?_⟩
  obtain ⟨rfl, c, hc, rfl⟩ := y
  exact ⟨fun _ _ h => h, sgnD c, by simp [hc], .str _⟩
/-! ### a dict's keys -/
theorem rp_key {Z : Addr → Prop} {c : PyData} {k : Key} (h : keyD c = some k) : Rp K H Z (kV k) c := by
  cases c <;> first | (cases h; first | exact .int _ | exact .str _) | cases h
theorem rp_keys {Z : Addr → Prop} : ∀ {ds : List PyData} {ks : List Key}, keysD ds = some ks → RpA K H Z (ks.map kV) ds
  | [], _, e => by cases e; exact .nil
  | d :: ds, _, e => by
    unfold keysD at e
    split at e
    · rename_i k0 ks e1 e2
      cases e
      exact .cons (rp_key e1) (rp_keys e2)
    · cases e
theorem RpK.at' {Z : Addr → Prop} : ∀ {kvs : List (Key × V)} {es : List (PyData × PyData)} {i : Nat} {k : Key} {v : V}, RpK K H Z kvs es → kvs[i]? = some (k, v) → ∃ c d, es[i]? = some (c, d) ∧ keyD c = some k ∧ Rp K H Z v d
  | _, _, _, _, _, .nil, e => by simp at e
  | _, _, 0, _, _, .cons h0 h1 _, e => by simp at e; obtain ⟨rfl, rfl⟩ := e; exact ⟨_, _, rfl, h0, h1⟩
  | _, _, i + 1, _, _, .cons _ _ h2, e => by simpa using RpK.at' h2 (i := i) (by simpa using e)
theorem RpT.at' {Z : Addr → Prop} : ∀ {kvs : List (List Key × V)} {es : List (PyData × PyData)} {i : Nat} {k : List Key} {v : V}, RpT K H Z kvs es → kvs[i]? = some (k, v) → ∃ c d, es[i]? = some (c, d) ∧ tkD c = some k ∧ Rp K H Z v d
  | _, _, _, _, _, .nil, e => by simp at e
  | _, _, 0, _, _, .cons h0 h1 _, e => by simp at e; obtain ⟨rfl, rfl⟩ := e; exact ⟨_, _, rfl, h0, h1⟩
  | _, _, i + 1, _, _, .cons _ _ h2, e => by simpa using RpT.at' h2 (i := i) (by simpa using e)
theorem isit_k {a : Addr} {o : Obj} {kvs : List (Key × V)} {es : List (PyData × PyData)} (ha : H a = some (.frz o (.dK kvs))) {Z : Addr → Prop} (h : RpK K H Z kvs es) : IsIt K (Itk a o kvs) m n H ⟨es.map (·.1), []⟩ := by
  have hl : kvs.length = es.length := h.len
  refine ⟨fun i H2 m2 st2 f S l hi => ⟨f.frz _ _ _ ha, by simpa [hl] using hi⟩, fun H2 m2 st2 f S l => ⟨f.frz _ _ _ ha, by simp [hl]⟩, fun i H2 m2 st2 v H3 f S l hi y => ?_⟩
  obtain ⟨rfl, k, v', e, rfl⟩ := y
  obtain ⟨c, d, e1, e2, _⟩ := h.at' e
  exact ⟨fun _ _ h => h, c, by simp [e1], rp_key e2⟩
theorem isit_kt {a : Addr} {o : Obj} {kvs : List (List Key × V)} {es : List (PyData × PyData)} (ha : H a = some (.frz o (.dT kvs))) {Z : Addr → Prop} (h : RpT K H Z kvs es) : IsIt K (Itkt a o kvs) m n H ⟨es.map (·.1), []⟩ := by
  have hl : kvs.length = es.length := h.len
  refine ⟨fun i H2 m2 st2 f S l hi => ⟨f.frz _ _ _ ha, by simpa [hl] using hi⟩, fun H2 m2 st2 f S l => ⟨f.frz _ _ _ ha, by simp [hl]⟩, fun i H2 m2 st2 v H3 f S l hi y => ?_⟩
  obtain ⟨rfl, k, v', q, e, rfl, hq⟩ := y
  obtain ⟨c, d, e1, e2, _⟩ := h.at' e
  refine ⟨fun _ _ h => h, c, by simp [e1], ?_⟩
  cases c with
  | tuple ds => exact .tup (.inl hq) (rp_keys e2)
  | _ => cases e2
theorem isit_r {lo : Int} {c : Nat} : IsIt K (Itr lo c) m n H ⟨rangeD lo c, []⟩ := by
  refine ⟨fun i H2 m2 st2 f S l hi => by show i < c; simpa [rangeD] using hi, fun H2 m2 st2 f S l => by show c ≤ _; simp [rangeD], fun i H2 m2 st2 v H3 f S l hi y => ?_⟩
  obtain ⟨rfl, rfl⟩ := y
  exact ⟨fun _ _ h => h, .int (lo + (i : Nat)), by
    have hi : i < c := by simpa [rangeD] using hi
    simp [rangeD, hi], .int _⟩
theorem isit_e {sc : Sc} {a : Addr} {q : Kd} (h : HoldsAt K m n H sc q a) : IsIt K (JE K q a) m n H ⟨enumD sc.xs, sc.lv⟩ := by
  have hl : (enumD sc.xs).length = sc.xs.length := by simp [enumD]
  refine ⟨fun i H2 m2 st2 f S l hi => ?_, fun H2 m2 st2 f S l => ?_, fun i H2 m2 st2 v H3 f S l hi y => ?_⟩
  · obtain ⟨us, q, r⟩ := h.at' H2 m2 st2 f S l
    obtain ⟨v, hv, _⟩ := r.get (List.getElem?_eq_getElem (show i < sc.xs.length from hl ▸ hi))
    exact ⟨us, v, q, hv⟩
  · obtain ⟨us, q, r⟩ := h.at' H2 m2 st2 f S l
    exact ⟨us, q, hl.trans r.len.symm⟩
  · obtain ⟨us, q, r⟩ := h.at' H2 m2 st2 f S l
    have hi : i < sc.xs.length := hl ▸ hi
    obtain ⟨T, x, rfl, hn, rfl, y⟩ := y
    obtain ⟨v', hv, rv⟩ := r.get (List.getElem?_eq_getElem hi)
    have := y us q
    rw [hv] at this
    cases this
    have g := grow_upd (o := .tup [V.int (i : Nat), x]) hn
    refine ⟨g, .tuple [.int (i : Nat), sc.xs[i]], by simp [enumD, hi], .tup (.inl upd_same) (.cons (.int _) (.cons (rv.mv (Fol.same (m := m2) (n := st2.length) g).kp) .nil))⟩
theorem isit_z {sc sd : Sc} {a b : Addr} {p q : Kd} (h : HoldsAt K m n H sc p a) (h' : HoldsAt K m n H sd q b) : IsIt K (JZ K p q a b) m n H ⟨List.zipWith pairD sc.xs sd.xs, sc.lv ++ sd.lv⟩ := by
  have hl : (List.zipWith pairD sc.xs sd.xs).length = min sc.xs.length sd.xs.length := List.length_zipWith
  refine ⟨fun i H2 m2 st2 f S l hi => ?_, fun H2 m2 st2 f S l => ?_, fun i H2 m2 st2 v H3 f S l hi y => ?_⟩
  · rw [show lvOk _ st2 = _ from lvOk_app _ _ _] at l
    obtain ⟨us, q, r⟩ := h.at' H2 m2 st2 f S l.1
    obtain ⟨us', q', r'⟩ := h'.at' H2 m2 st2 f S l.2
    have hi : i < min sc.xs.length sd.xs.length := hl ▸ hi
    obtain ⟨v, hv, _⟩ := r.get (List.getElem?_eq_getElem (show i < sc.xs.length by omega))
    obtain ⟨v', hv', _⟩ := r'.get (List.getElem?_eq_getElem (show i < sd.xs.length by omega))
    exact ⟨us, us', v, v', q, q', hv, hv'⟩
  · rw [show lvOk _ st2 = _ from lvOk_app _ _ _] at l
    obtain ⟨us, q, r⟩ := h.at' H2 m2 st2 f S l.1
    obtain ⟨us', q', r'⟩ := h'.at' H2 m2 st2 f S l.2
    exact ⟨us, us', q, q', by rw [r.len, r'.len]; exact hl⟩
  · rw [show lvOk _ st2 = _ from lvOk_app _ _ _] at l
    obtain ⟨us, q, r⟩ := h.at' H2 m2 st2 f S l.1
    obtain ⟨us', q', r'⟩ := h'.at' H2 m2 st2 f S l.2
    have hi : i < min sc.xs.length sd.xs.length := hl ▸ hi
    have i1 : i < sc.xs.length := by omega
    have i2 : i < sd.xs.length := by omega
    obtain ⟨T, x, x', rfl, hn, rfl, y, y'⟩ := y
    obtain ⟨v, hv, rv⟩ := r.get (List.getElem?_eq_getElem i1)
    obtain ⟨v', hv', rv'⟩ := r'.get (List.getElem?_eq_getElem i2)
    have e := y us q
    rw [hv] at e
    cases e
    have e := y' us' q'
    rw [hv'] at e
    cases e
    have g := grow_upd (o := .tup [x, x']) hn
    have kp := (Fol.same (m := m2) (n := st2.length) g).kp (K := K)
    exact ⟨g, pairD sc.xs[i] sd.xs[i], by simp [List.getElem?_zipWith, i1, i2], .tup (.inl upd_same) (.cons (rv.mv kp) (.cons (rv'.mv kp) .nil))⟩
end
/-! ### the rules -/
section
variable {M : Md} {X : Cx} {B : Tb} {k : Nat} {pins : List (Addr × Obj)} {σ : L2.St} {H : Hp} {s : Shared} {m : Mp} {env : En} {st : Sto} {W : WX} {pos p : Pos} {tg : Expr}
theorem PI.imp {e : Expr} {t t' : TI} (h : PI X tg e t) (q : ∀ σ H R, t' σ H R → t σ H R) : PI X tg e t' := ⟨fun pins s σ H R I x => h.run pins s σ H R I (q σ H R x)⟩
theorem di_seq {e : Expr} {ce : En → Sto → Rs Wv} (he : DE X e ce) : DI X tg e (cSeq ce) := by
  refine ⟨fun W tk => ⟨fun pins s σ H R I ⟨m, env, st, S, Re, hp⟩ => ?_⟩⟩
  unfold cSeq at hp
  rw [Rs.post_bind] at hp
  cases ec : ce env st with
  | no => rw [ec] at hp; exact hp.elim
  | ex x st1 =>
    rw [ec] at hp
    exact (pi_list (he.pe W tk)).run pins s σ H R I ⟨m, env, st, S, Re, by rw [ec]; exact hp⟩
  | ok w st1 =>
    rw [ec] at hp
    simp only [Rs.post_ok] at hp
    split at hp
    · rename_i x
      refine (pi_str (he.pe W tk)).run pins s σ H R I ⟨m, env, st, S, Re, ?_⟩
      rw [ec]
      intro v H1 m1 f1 S1 r1
      cases r1
      exact ⟨x, rfl, hp _ H1 m1 f1 S1 isit_s⟩
    · rename_i es
      refine (pi_keys (he.pe W tk)).run pins s σ H R I ⟨m, env, st, S, Re, ?_⟩
      rw [ec]
      intro v H1 m1 f1 S1 r1
      cases r1 with
      | dic h1 h2 => exact ⟨_, _, rfl, .inl ⟨_, h1, hp _ H1 m1 f1 S1 (isit_k h1 h2)⟩⟩
      | dit h1 h2 => exact ⟨_, _, rfl, .inr ⟨_, h1, hp _ H1 m1 f1 S1 (isit_kt h1 h2)⟩⟩
    · split at hp
      · rename_i sc esc
        have key : ∀ v H1 m1, Fol m st.length H m1 st1.length H1 → Sim X.K H1 m1 st1 → RW X.K H1 m1 st1.length v w → ∃ a q, v = .ref a ∧ HoldsAt X.K m1 st1.length H1 sc q a := fun v H1 m1 f1 S1 r1 => seqW_at S1 r1 esc
        by_cases hq : ∃ xs, w = .d (.tuple xs)
        · obtain ⟨xs, rfl⟩ := hq
          cases esc
          refine (pi_tup (he.pe W tk)).run pins s σ H R I ⟨m, env, st, S, Re, ?_⟩
          rw [ec]
          intro v H1 m1 f1 S1 r1
          cases r1 with
          | tup h1 h2 => exact ⟨_, rfl, ⟨_, h1.sq⟩, hp _ H1 m1 f1 S1 (isit_t ⟨fun H2 m2 st2 f S2 _ => ⟨_, f.kp.sqt h1.sq, h2.mv f.kp⟩⟩)⟩
        · refine (pi_list (he.pe W tk)).run pins s σ H R I ⟨m, env, st, S, Re, ?_⟩
          rw [ec]
          intro v H1 m1 f1 S1 r1
          unfold seqW at esc
          split at esc
          · cases esc
            cases r1 with
            | lst h1 h2 => exact ⟨_, rfl, ⟨_, h1.sq⟩, hp _ H1 m1 f1 S1 (isit_l ⟨fun H2 m2 st2 f S2 _ => ⟨_, (f.kp.ls h1).sq, h2.mv f.kp⟩⟩)⟩
          · exact absurd ⟨_, rfl⟩ hq
          · split at esc
            · rename_i i _ _ _ xs e1
              cases esc
              obtain ⟨us, h1, h2⟩ := S1.ob i _ e1
              refine ⟨m1.ix i, r1.2, ⟨us, .inl (.inl h1)⟩, hp _ H1 m1 f1 S1 (isit_l ⟨fun H2 m2 st2 f S2 l => ?_⟩)⟩
              rw [lvOk_one] at l
              obtain ⟨us2, g1, g2⟩ := S2.ob i _ l
              rw [f.old i r1.1] at g1
              exact ⟨us2, .inl (.inl g1), g2⟩
            · cases esc
          · cases esc
      · exact hp.elim
theorem rws1 {K : Frg} {n : Nat} {vs : List V} {w : Wv} (h : RWs K H m n vs [w]) : ∃ v, vs = [v] ∧ RW K H m n v w := by
  cases h with | cons h1 h2 => cases h2; exact ⟨_, rfl, h1⟩
theorem rws2 {K : Frg} {n : Nat} {vs : List V} {w w' : Wv} (h : RWs K H m n vs [w, w']) : ∃ v v', vs = [v, v'] ∧ RW K H m n v w ∧ RW K H m n v' w' := by
  cases h with | cons h1 h2 => obtain ⟨v', rfl, h3⟩ := rws1 h2; exact ⟨_, v', rfl, h1, h3⟩
theorem rgOk_iff {i : Int} (h : rgOk i = true) : -(2 ^ 62) ≤ i ∧ i < 2 ^ 62 := by
  unfold rgOk at h
  simpa using h
theorem di_range1 (c : Cxt M X B k) {a : Expr} {cs : En → Sto → Rs (List Wv)} (j : Nat) (hg : B.gs[j]? = some ("range" : Str)) (hm : M.mg "range" = none) (ha : DA X [a] cs) (hs : starEach [a] X.env = [(false, eval a X.env)] := by rfl) : DI X tg (.Call (.Name "range" p) [a] [] pos) (cRg1 cs) := by
  refine ⟨fun W tk => PI.imp (pi_range1 (c.gl j _ hg) (by rw [c.mg]; exact hm) (ha.pa W tk) hs) fun σ H R ⟨m, env, st, S, Re, hp⟩ => ?_⟩
  unfold cRg1 at hp
  rw [Rs.post_bind] at hp
  refine ⟨m, env, st, S, Re, Rs.post_mono hp (fun ws st1 q vs H1 m1 f1 S1 r1 => ?_) fun _ _ q => q⟩
  split at q
  · rename_i i
    split at q
    · rename_i hi
      obtain ⟨h1, h2⟩ := rgOk_iff hi
      obtain ⟨v, rfl, r⟩ := rws1 r1
      cases r
      exact ⟨i, rfl, h1, h2, q _ H1 m1 f1 S1 isit_r⟩
    · exact q.elim
  · exact q.elim
theorem di_range2 (c : Cxt M X B k) {a b : Expr} {cs : En → Sto → Rs (List Wv)} (j : Nat) (hg : B.gs[j]? = some ("range" : Str)) (hm : M.mg "range" = none) (ha : DA X [a, b] cs)
    (hs : starEach [a, b] X.env = [(false, eval a X.env), (false, eval b X.env)] := by rfl) (hs2 : starEach [b] X.env = [(false, eval b X.env)] := by rfl) : DI X tg (.Call (.Name "range" p) [a, b] [] pos) (cRg2 cs) := by
  refine ⟨fun W tk => PI.imp (pi_range2 (c.gl j _ hg) (by rw [c.mg]; exact hm) (ha.pa W tk) hs hs2) fun σ H R ⟨m, env, st, S, Re, hp⟩ => ?_⟩
  unfold cRg2 at hp
  rw [Rs.post_bind] at hp
  refine ⟨m, env, st, S, Re, Rs.post_mono hp (fun ws st1 q vs H1 m1 f1 S1 r1 => ?_) fun _ _ q => q⟩
  split at q
  · rename_i i j
    split at q
    · rename_i hi
      rw [Bool.and_eq_true] at hi
      obtain ⟨h1, h2⟩ := rgOk_iff hi.1
      obtain ⟨h3, h4⟩ := rgOk_iff hi.2
      obtain ⟨v, v', rfl, r, r'⟩ := rws2 r1
      cases r
      cases r'
      exact ⟨i, j, rfl, ⟨h1, h2, h3, h4⟩, q _ H1 m1 f1 S1 isit_r⟩
    · exact q.elim
  · exact q.elim
end
end
section
variable [Wtp] [Tbl]
theorem args_init2 (obj a : Value) : argsOk "object.__init__" ⟨[obj, a], []⟩ := F.args_object_init_2 obj a
/-- enumerate(v) over whatever iter(v) makes -/
theorem enum_made {v : Value} {o : Obj} {Hh : Heap → Prop} (Bg : Begins v o Hh) :
    Meets (Builtin.«enumerate.__new__» ⟨[.type "enumerate", v], []⟩) (fun _ Rr sh => Hh sh.heap ∧
      Rr (.ok (.ret (.ref (sh.heap.push o).objs.size))) { sh with heap := (sh.heap.push o).push { cls := .type "enumerate", data := .fields #[.none, .bool false, .ref sh.heap.objs.size, rawInt 0, .none, .none] } }) :=
  .of_wp fun prog w A Rr sh hyp => by
    obtain ⟨hp, g, d, tk, os⟩ := sh
    obtain ⟨h1, hyp⟩ := hyp
    have sb := sub_enumerate
    have qi : ∀ {A' : Around} {E' : Value → Shared → Prop} {Q' : Value → Shared → Prop}, Q' (.ref hp.objs.size) ⟨hp.push o, g, d, tk, os⟩ → wpAny (model prog w) A' (pyIter v) Q' E' ⟨hp, g, d, tk, os⟩ :=
      fun z => Bg.iter prog w _ _ ⟨hp, g, d, tk, os⟩ _ h1 z
    wp_walk using qi
    refine wpAny_stack_any fun st => wpAny_pure ?_
    split
    · rename_i c5 _ _ _ _ _
      cases (c5 == Value.type "enumerate") <;> (wp_walk using qi; exact ⟨_, rfl, hyp⟩)
    · wp_walk using qi
      exact ⟨_, rfl, hyp⟩
section
variable {prog : Program} {w : World} {A : Around} {E : Value → Shared → Prop} {s : Shared}
theorem enum_one {v : Value} {o : Obj} {Hh : Heap → Prop} {Q : Value → Shared → Prop} (Bg : Begins v o Hh) (h1 : Hh s.heap)
    (h : ∀ h', IsEnum h' (s.heap.objs.size + 1) s.heap.objs.size 0 .none → h'.get? s.heap.objs.size = some o → (∀ b ob, s.heap.get? b = some ob → h'.get? b = some ob) → Q (.ref (s.heap.objs.size + 1)) { s with heap := h' }) :
    wpAny (model prog w) A (call (.type "enumerate") [v]) Q E s := by
  refine callType_new F.called_enumerate (by decide) (F.typeCall_enumerate_1 _) (F.newCall_enumerate_1 _) (fun obj => args_init2 obj _) F.entry_enumerate_new (enum_made Bg) ⟨h1, ?_⟩
  have sz : (s.heap.push o).objs.size = s.heap.objs.size + 1 := Heap.size_push ..
  have he := Heap.get?_push_size (s.heap.push o) (o := { cls := .type "enumerate", data := .fields #[.none, .bool false, .ref s.heap.objs.size, rawInt 0, .none, .none] }) rfl
  rw [sz] at he
  show _ ∧ _
  rw [sz]
  exact ⟨⟨_, he, rfl⟩, h _ he (Heap.get?_push_of_some _ (Heap.get?_push_size _ Bg.free)) fun b ob x => Heap.get?_push_of_some _ (Heap.get?_push_of_some _ x)⟩
end
section
variable {M : Md} {X : Cx} {B : Tb} {k : Nat} {pins : List (Addr × Obj)} {σ : L2.St} {H : Hp} {s : Shared} {m : Mp} {env : En} {st : Sto} {W : WX} {pos p tpos : Pos} {elts : List Expr} {kk : Nat}
theorem HoldsAt.now {sc : Sc} {q : Kd} {a : Addr} (h : HoldsAt X.K m st.length H sc q a) (S : Sim X.K H m st) (l : lvOk sc.lv st) : ∃ us, q.sq X.K H a us := by
  obtain ⟨us, h1, _⟩ := h.at' H m st .refl S l
  exact ⟨us, h1⟩
theorem seqW_lv {w : Wv} {sc : Sc} (e : seqW w st = some sc) : lvOk sc.lv st := by
  unfold seqW at e
  split at e
  · cases e; simp
  · cases e; simp
  · split at e
    · cases e; rw [lvOk_one]; assumption
    · cases e
  · cases e
theorem here_lt {q : Kd} {a : Addr} {us : Array Value} (h : q.here s.heap a us) : a < s.heap.objs.size := by
  cases q <;> (obtain ⟨o, e, _⟩ := h; exact Heap.lt_size e)
theorem di_enum (c : Cxt M X B k) {e : Expr} {cs : En → Sto → Rs (List Wv)} (j : Nat) (hg : B.gs[j]? = some ("enumerate" : Str)) (hm : M.mg "enumerate" = none) (ha : DA X [e] cs) (hs : starEach [e] X.env = [(false, eval e X.env)] := by rfl) :
    DI X (.Tuple elts kk tpos) (.Call (.Name "enumerate" p) [e] [] pos) (cEnum cs) := by
  refine ⟨fun W tk => ⟨fun pins s σ H R I ⟨m, env, st, S, Re, hp⟩ => ?_⟩⟩
  unfold cEnum at hp
  rw [Rs.post_bind] at hp
  refine Call_ (ld_blt I (c.gl j _ hg) (by rw [c.mg]; exact hm) boot_enumerate (PyProof.Rows.callWith_type1 (ha.go tk I S Re pos (Rs.post_mono hp (fun ws st1 q vs H1 m1 us s1 I1 rv f1 S1 r1 => ?_) fun _ _ q => q)) hs rfl))
  split at q
  · split at q
    · rename_i w sc esc
      obtain ⟨v, rfl, r⟩ := rws1 r1
      obtain ⟨a, kd, rfl, h⟩ := seqW_at S1 r esc
      cases rv with
      | cons rv rn =>
        cases rn
        cases rv
        obtain ⟨xs, hx⟩ := h.now S1 (seqW_lv esc)
        obtain ⟨us, _, hu⟩ := Kd.of I1 hx
        refine enum_one (kd.begins a us.toArray) hu fun h' he hi hk => wpAny_pyIter_enum he ?_
        have I2 : Inv X pins σ H1 { s1 with heap := h' } := I1.kept (t' := s1.toks) hk
        refine ⟨s1.heap.objs.size + 1, [s1.heap.objs.size + 1, s1.heap.objs.size], _, _, H1, rfl, I2, turn_JE kd a _ _ (Nat.succ_ne_self _), ⟨⟨.none, he⟩, Kd.first hi⟩, fun b hb => ?_, q _ H1 m1 f1 S1 (isit_e h)⟩
        have le : s1.heap.objs.size ≤ b := by
          rcases (show b = s1.heap.objs.size + 1 ∨ b = s1.heap.objs.size by simpa using hb) with z | z
          · rw [z]; exact Nat.le_succ _
          · rw [z]; exact Nat.le_refl _
        exact I1.fpOk le (I1.hok.fresh le)
    · exact q.elim
  · exact q.elim
theorem di_zip2 (c : Cxt M X B k) {e e2 : Expr} {cs : En → Sto → Rs (List Wv)} (j : Nat) (hg : B.gs[j]? = some ("zip" : Str)) (hm : M.mg "zip" = none) (ha : DA X [e, e2] cs)
    (hs : starEach [e, e2] X.env = (false, eval e X.env) :: starEach [e2] X.env := by rfl) (hpl : (backTo pos (starEach [e2] X.env)).any (·.1) = false := by rfl) :
    DI X (.Tuple elts kk tpos) (.Call (.Name "zip" p) [e, e2] [] pos) (cZip2 cs) := by
  refine ⟨fun W tk => ⟨fun pins s σ H R I ⟨m, env, st, S, Re, hp⟩ => ?_⟩⟩
  unfold cZip2 at hp
  rw [Rs.post_bind] at hp
  refine Call_ (ld_blt I (c.gl j _ hg) (by rw [c.mg]; exact hm) PyProof.Rows.boot_zip (PyProof.Rows.callWith_type1 (ha.go tk I S Re pos (Rs.post_mono hp (fun ws st1 q vs H1 m1 us s1 I1 rv f1 S1 r1 => ?_) fun _ _ q => q)) hs hpl))
  split at q
  · split at q
    · rename_i sc sd esc esd
      obtain ⟨v, v', rfl, r, r'⟩ := rws2 r1
      obtain ⟨a, kd, rfl, h⟩ := seqW_at S1 r esc
      obtain ⟨b, kd', rfl, h'⟩ := seqW_at S1 r' esd
      cases rv with
      | cons rv rn =>
        cases rn with
        | cons rv' rn =>
          cases rn
          cases rv
          cases rv'
          obtain ⟨xs, hx⟩ := h.now S1 (seqW_lv esc)
          obtain ⟨us, _, hu⟩ := Kd.of I1 hx
          obtain ⟨xs', hx'⟩ := h'.now S1 (seqW_lv esd)
          obtain ⟨us', _, hu'⟩ := Kd.of I1 hx'
          refine zip_begins2 (kd.begins a us.toArray) (kd'.begins b us'.toArray) hu hu' fun h'' hz hT hO i1 i2 _ hk => wpAny_pyIter_zip hz ?_
          have I2 : Inv X pins σ H1 { s1 with heap := h'' } := I1.kept (t' := s1.toks) hk
          refine ⟨s1.heap.objs.size + 4, [s1.heap.objs.size + 4, s1.heap.objs.size + 2, s1.heap.objs.size + 3, s1.heap.objs.size, s1.heap.objs.size + 1], _, _, H1, rfl, I2, turn_JZ kd kd' a b _ (here_lt hu) (here_lt hu'), ⟨hz, hT, ⟨_, _, hO⟩, Kd.first i1, Kd.first i2⟩, fun d hd => ?_, q _ H1 m1 f1 S1 (isit_z h h')⟩
          have le : s1.heap.objs.size ≤ d := by
            rcases (show d = s1.heap.objs.size + 4 ∨ d = s1.heap.objs.size + 2 ∨ d = s1.heap.objs.size + 3 ∨ d = s1.heap.objs.size ∨ d = s1.heap.objs.size + 1 by simpa using hd) with z | z | z | z | z <;> (rw [z]; first | exact Nat.le_add_right _ _ | exact Nat.le_refl _)
          exact I1.fpOk le (I1.hok.fresh le)
    · exact q.elim
  · exact q.elim
/-! ## comprehensions -/
/-- the parts of a comprehension, its names at vs -/
structure LcOk (X : Cx) (elt tg iter : Expr) (ifs : List Expr) (scope : Scope) (own : List (Str × Nat)) (ci : En → Sto → Rs Sc) (g : Wv → En → Option En) (t : En → Sto → Rs Bool) (c : En → Sto → Rs Wv) : Prop where
  hi : DI X tg iter ci
  ok : BlkOk X.N X.env.scope scope own
  S0 : ∃ S0 : List Nat, (∀ i ∈ S0, i ∈ own.map (·.2)) ∧ ∀ (s : Shared) (H : Hp) (C : Addr) (cl : List (Str × Addr)) (fp : List Addr), DG (X.blk s H scope (compEnvC scope cl C X.env) fp) S0 tg g
  ht : ∀ (s : Shared) (H : Hp) (C : Addr) (cl : List (Str × Addr)) (fp : List Addr), DTs (X.blk s H scope (compEnvC scope cl C X.env) fp) ifs t
  he : ∀ (s : Shared) (H : Hp) (C : Addr) (cl : List (Str × Addr)) (fp : List Addr), DE (X.blk s H scope (compEnvC scope cl C X.env) fp) elt c
  hs : ∀ x, foldedSetIterable iter X.env x = pure x
theorem lc_ok (cx : Cxt M X B k) {elt tg iter : Expr} {ifs : List Expr} {scope : Scope} {ci : En → Sto → Rs Sc} {g : Wv → En → Option En} {t : En → Sto → Rs Bool} {c : En → Sto → Rs Wv} (own : List (Str × Nat)) (us ls : List Nat) (gs cs : List Str)
    (hb : blkT B us ls gs cs scope own = true) (hi : DI X tg iter ci) (hS : (ls.all fun i => (own.map (·.2)).contains i) = true)
    (hg : ∀ X' : Cx, Cxt M X' (B.blk us ls gs cs) k → DG X' ls tg g) (ht : ∀ X' : Cx, Cxt M X' (B.blk us ls gs cs) k → DTs X' ifs t)
    (he : ∀ X' : Cx, Cxt M X' (B.blk us ls gs cs) k → DE X' elt c) (hs : ∀ x, foldedSetIterable iter X.env x = pure x := by intro _; rfl) : LcOk X elt tg iter ifs scope own ci g t c :=
  ⟨hi, cx.blkOk hb, ⟨ls, fun i h => by simpa using (List.all_eq_true.mp hS) i h, fun s H C cl fp => hg _ (cx.blk hb s H C cl fp)⟩, fun s H C cl fp => ht _ (cx.blk hb s H C cl fp), fun s H C cl fp => he _ (cx.blk hb s H C cl fp), hs⟩
section
variable {elt tg iter : Expr} {ifs : List Expr} {scope : Scope} {own : List (Str × Nat)} {ci : En → Sto → Rs Sc} {g : Wv → En → Option En} {t : En → Sto → Rs Bool} {c : En → Sto → Rs Wv} {vs : List Nat}
theorem lcOk_tg {S0 : List Nat} (h : ∀ (s : Shared) (H : Hp) (C : Addr) (cl : List (Str × Addr)) (fp : List Addr), DG (X.blk s H scope (compEnvC scope cl C X.env) fp) S0 tg g) :
    ∀ (s : Shared) (H : Hp) (C : Addr) (cl : List (Str × Addr)) (fp : List Addr), PG (X.blk s H scope (compEnvC scope cl C X.env) fp) tg (fun v σ H Q => ∃ m n env w env', RW X.K H m n v w ∧ EnvR X.K H m n env σ ∧ g w env = some env' ∧ ∀ σ', EnvR X.K H m n env' σ' → But S0 σ σ' → Q σ' H) :=
  fun s H C cl fp => (h s H C cl fp).pg
theorem lc_data {Q : VK} {σ : L2.St} {S0 : List Nat} {tgt : TG} (hS : ∀ i ∈ S0, i ∈ vs)
    (htg : ∀ v σ H Q, (∃ m n env w env', RW X.K H m n v w ∧ EnvR X.K H m n env σ ∧ g w env = some env' ∧ ∀ σ', EnvR X.K H m n env' σ' → But S0 σ σ' → Q σ' H) → tgt v σ H Q) (h : tE X W (eLc ci g t c vs) σ H Q) : tLc (tI X W ci) tgt (tT X Wno t) (tE X Wno c) vs σ H Q := by
  obtain ⟨m, env, st, S, R, hp⟩ := h
  unfold eLc at hp
  rw [Rs.post_bind] at hp
  refine lc_tLc hS htg S R (Rs.post_mono hp (fun ys st1 q D H1 m1 xs hD f1 S1 F1 hx r1 => ?_) fun _ _ q => q)
  have kp : Kp X.K H1 (Off m1 st1.length) H1 (Off (m1.done D) st1.length) := ⟨fun _ _ h => h, fun _ _ _ h => h, fun a o _ h z => ⟨h, off_done a z⟩⟩
  exact q _ H1 (m1.done D) f1 (S1.sub rfl fun a z => z.1) (.lst (.inl ⟨hx, fun i hi e => S1.fi i hi (by rw [show m1.ix i = D from e]; exact F1), fun z => z.2 rfl⟩) (r1.mv kp))
theorem de_lc (cx : Cxt M X B k) (h : LcOk X elt tg iter ifs scope own ci g t c) : DE X (.ListComp elt [⟨tg, iter, ifs, 0⟩] scope pos) (eLc ci g t c (own.map (·.2))) := by
  obtain ⟨S0, hS, hg⟩ := h.S0
  exact ⟨fun W tk => PE.imp (pe_lc (wi := tI X W ci) (tt := tT X Wno t) (te := tE X Wno c) cx.calm (by rw [cx.hN]; exact cx.nd) (h.hi.pi W tk) h.ok (lcOk_tg hg) (fun s H C cl fp => (h.ht s H C cl fp).pts Wno takes_no) (fun s H C cl fp => (h.he s H C cl fp).pe Wno takes_no) h.hs) fun σ H Q q => lc_data hS (fun _ _ _ _ z => z) q⟩
/-- name = [..] on one line -/
theorem ds_setlc (cx : Cxt M X B k) (i : Nat) {y : Str} {py spos : Pos} (hi : B.N[i]? = some y) (hl : i ∈ B.ps) (hf : B.fn = true) (h : LcOk X elt tg iter ifs scope own ci g t c) (hln : (py.line == pos.line) = true)
    (hany : (scope.names.any fun (n, k) => n == y && (k == .local || k == .cell)) = false) : DS X (.Assign [.Name y py] (.ListComp elt [⟨tg, iter, ifs, 0⟩] scope pos) spos) (sSet i (eLc ci g t c (own.map (·.2)))) := by
  obtain ⟨S0, hS, hg⟩ := h.S0
  have hyl := cx.pl i hl y hi
  refine ⟨fun W tk => PS.imp (ps_setLc (wi := tI X W ci) (tt := tT X Wno t) (te := tE X Wno c) cx.calm (by rw [cx.hN]; exact cx.nd) (by rw [cx.hN]; exact hi) hyl (sw_true (cx.kind hf) hyl hln hany) (h.hi.pi W tk) h.ok (lcOk_tg hg) (fun s H C cl fp => (h.ht s H C cl fp).pts Wno takes_no) (fun s H C cl fp => (h.he s H C cl fp).pe Wno takes_no) h.hs) fun D σ H ⟨m, env, st, S, R, hp⟩ => ?_⟩
  refine lc_data hS (fun _ _ _ _ z => z) ?_
  exact te_sb (f := fun env w st1 => .nx (env.set i (some w)) st1) S R hp fun w st1 v H1 m1 f1 S1 R1 r1 q => q _ H1 m1 f1 S1 (R1.set i r1)
end
end
end
section
variable [Wtp] [Tbl]
/-! ## a def and its calls -/
/-- what goes out of a def, the store's newer part being dropped -/
def frzW (n : Nat) (st : Sto) (w : Wv) : Option PyData := match w with
  | .d x => some x
  | .r i => if n ≤ i then match st[i]? with
    | some (.lst xs) => some (.list xs)
    | some (.dct es) => some (.dict es)
    | some (.dtt es) => some (.dict es)
    | some (.lkd es) => some (.dict es)
    | some (.lkl xs) => some (.list xs)
    | none => none
    else none
  | .x _ _ _ => none
def frzA (n : Nat) (st : Sto) : List Wv → Option (List PyData)
  | [] => some []
  | w :: r => match frzW n st w, frzA n st r with
    | some x, some xs => some (x :: xs)
    | _, _ => none
def endR (n : Nat) (st : Sto) : Rt → Rs Wv
  | .w (.d x) => .ok (.d x) (st.take n)
  | .w (.x _ _ _) => .no
  | .w (.r i) => if i < n then .ok (.r i) (st.take n) else match st[i]? with
    | some o => .ok (.r n) (st.take n ++ [o])
    | none => .no
  | .f w => match frzW n st w with
    | some x => .ok (.d x) (st.take n)
    | none => .no
  | .ft ws => match frzA n st ws with
    | some xs => .ok (.d (.tuple xs)) (st.take n)
    | none => .no
def endS (n : Nat) : SR → Rs Wv
  | .nx _ st => .ok (.d .none) (st.take n)
  | .rt p st => endR n st p
  | .ex e st => .ex e (st.take n)
  | .no => .no
/-- a def of np parameters and N names, by its body -/
def mkF (np N : Nat) (body : En → Sto → SR) : List Wv → Sto → Rs Wv := fun ws st => if ws.length = np then endS st.length (body (ws.map some ++ List.replicate (N - ws.length) none) st) else .no
structure Fnk (M : Md) (g : Bool) (k : Nat) (f : Addr) (fd : FuncData) (ps : List Str) (mf : List Wv → Sto → Rs Wv) : Prop where
  len : ∀ ws st Q E, (mf ws st).post Q E → ws.length = ps.length
  run : ∀ (A : Around) (outer : List Env) (s : Shared) (H : Hp) (args : Args) (us : List Value) (vs : List V) (ws : List Wv) (m : Mp) (st : Sto) (Q : VK) (E : XK), Room k A → (g = true → A.guards = some []) → Env0 M.P M.w M.K M.mg M.base A outer s H → BindsTo s fd args (ps.zip us) → Vals vs us →
    Sim M.K H m st → RWs M.K H m st.length vs ws →
    (mf ws st).post (fun w st' => ∀ v H' m', Fol m st.length H m' st'.length H' → Sim M.K H' m' st' → RW M.K H' m' st'.length v w → Q v H') (fun e st' => ∀ c d H' m', Fol m st.length H m' st'.length H' → Sim M.K H' m' st' → ExR M.K M.mg H' m' st'.length e c d → E c d H') →
    codeAny (model M.P M.w) A (.call (.ref f) args) (CR (L2.CX M.P M.w) outer M.P M.w H s Q E) s
theorem Fnk.mono {M : Md} {g : Bool} {j k : Nat} {f : Addr} {fd : FuncData} {ps : List Str} {mf : List Wv → Sto → Rs Wv} (F : Fnk M g j f fd ps mf) (h : j ≤ k) : Fnk M g k f fd ps mf :=
  ⟨F.len, fun A outer s H args us vs ws m st Q E hr => F.run A outer s H args us vs ws m st Q E (hr.mono h)⟩
section
variable {K : Frg} {H H' : Hp} {m m' : Mp} {st : Sto} {n n' : Nat}
theorem off_le {a : Addr} (h : n ≤ n') (z : Off m n' a) : Off m n a := ⟨fun i hi => z.1 i (Nat.lt_of_lt_of_le hi h), z.2⟩
theorem Kp.le (h : n ≤ n') : Kp K H (Off m n') H (Off m n) := ⟨fun _ _ q => q, fun _ _ _ q => q, fun a o _ q z => ⟨q, off_le h z⟩⟩
theorem Sim.take (S : Sim K H m st) (h : n ≤ st.length) : Sim K H m (st.take n) := by
  have hl : (st.take n).length = n := by rw [List.length_take]; omega
  refine ⟨fun i o e => ?_, fun i j hi hj => S.inj i j (by omega) (by omega), S.ff, fun i hi => S.fi i (by omega), S.tb⟩
  have hi : i < n := by have := (List.getElem?_eq_some_iff.mp e).1; omega
  rw [List.getElem?_take_of_lt hi] at e
  have q := S.ob i o e
  rw [hl]
  cases o with
  | lst xs => obtain ⟨vs, h1, h2⟩ := q; exact ⟨vs, h1, h2.mv (.le h)⟩
  | dct kvs => obtain ⟨vs, h1, h2⟩ := q; exact ⟨vs, h1, RpK.kp (.le h) _ _ h2⟩
  | dtt kvs => obtain ⟨vs, h1, h2⟩ := q; exact ⟨vs, h1, RpT.kp (.le h) _ _ h2⟩
  | lkd es => exact Rp.mv q (.le h)
  | lkl xs => exact FzL.mv q (.le h)
theorem Fol.back (f : Fol m n H m' n' H') : Fol m n H m' n H' := ⟨f.tup, f.frz, f.rest, f.old, fun i a b => absurd b (by omega), Nat.le_refl _, f.dom, f.eF⟩
/-- dicts at these places are pinned -/
def fzH (H : Hp) (as : List Addr) (os : Addr → Obj) : Hp := fun b => if b ∈ as then (match H b with
  | some (.dK ks) => some (.frz (os b) (.dK ks))
  | some (.dT ks) => some (.frz (os b) (.dT ks))
  | u => u) else H b
theorem fz_nil (H : Hp) (os : Addr → Obj) : fzH H [] os = H := by funext b; unfold fzH; simp
theorem fz_out {H : Hp} {as : List Addr} {os : Addr → Obj} {b : Addr} (h : b ∉ as) : fzH H as os b = H b := if_neg h
theorem fz_dK {H : Hp} {as : List Addr} {os : Addr → Obj} {b : Addr} {ks : List (Key × V)} (hb : b ∈ as) (h : H b = some (.dK ks)) : fzH H as os b = some (.frz (os b) (.dK ks)) := by unfold fzH; rw [if_pos hb, h]
theorem fz_dT {H : Hp} {as : List Addr} {os : Addr → Obj} {b : Addr} {ks : List (List Key × V)} (hb : b ∈ as) (h : H b = some (.dT ks)) : fzH H as os b = some (.frz (os b) (.dT ks)) := by unfold fzH; rw [if_pos hb, h]
theorem fz_same {H : Hp} {as : List Addr} {os : Addr → Obj} {b : Addr} {u : HO} (h : H b = some u) (h1 : ∀ ks, u ≠ .dK ks) (h2 : ∀ ks, u ≠ .dT ks) : fzH H as os b = some u := by
  unfold fzH
  split
  · rw [h]
    split
    · rename_i ks e; exact absurd (Option.some.inj e) (h1 ks)
    · rename_i ks e; exact absurd (Option.some.inj e) (h2 ks)
    · rfl
  · exact h
theorem fz_nn {H : Hp} {as : List Addr} {os : Addr → Obj} {b : Addr} (h : Nn H b) : Nn (fzH H as os) b := by
  obtain ⟨u, e, nt⟩ := h
  by_cases hk : (∃ ks, u = .dK ks) ∨ ∃ ks, u = .dT ks
  · by_cases hb : b ∈ as
    · rcases hk with ⟨ks, rfl⟩ | ⟨ks, rfl⟩
      · exact ⟨_, fz_dK hb e, fun _ z => nomatch z⟩
      · exact ⟨_, fz_dT hb e, fun _ z => nomatch z⟩
    · exact ⟨u, (fz_out hb).trans e, nt⟩
  · exact ⟨u, fz_same e (fun ks z => hk (.inl ⟨ks, z⟩)) (fun ks z => hk (.inr ⟨ks, z⟩)), nt⟩
theorem fz_tabs {T : List (Addr × Str)} {H : Hp} {as : List Addr} {os : Addr → Obj} (t : LamX.Tabs T H) : LamX.Tabs T (fzH H as os) := fun p hp => by
  obtain ⟨ps, h1, h2, h3⟩ := t p hp
  refine ⟨ps, fz_same h1 (fun _ z => nomatch z) (fun _ z => nomatch z), h2, fun pos cv hc => ?_⟩
  obtain ⟨c, e, hq⟩ := h3 pos cv hc
  exact ⟨c, e, fz_same hq (fun _ z => nomatch z) (fun _ z => nomatch z)⟩
theorem fz_kp {H : Hp} {as : List Addr} {os : Addr → Obj} {Z Z' : Addr → Prop} (h : ∀ a, Z a → Z' a) : Kp K H Z (fzH H as os) Z' :=
  ⟨fun a xs e => fz_same e (fun _ z => nomatch z) (fun _ z => nomatch z), fun a o u e => fz_same e (fun _ z => nomatch z) (fun _ z => nomatch z), fun a o ⟨xs, ho⟩ e z => ⟨by subst ho; exact fz_same e (fun _ z => nomatch z) (fun _ z => nomatch z), h a z⟩⟩
theorem freezeAll {X : Cx} {pins : List (Addr × Obj)} {σ : L2.St} {s : Shared} (I : Inv X pins σ H s) : ∀ as : List Addr, ∃ os, Inv X pins σ (fzH H as os) s
  | [] => ⟨fun _ => { cls := .none, data := .plain }, by rw [fz_nil]; exact I⟩
  | a :: as => by
    obtain ⟨os, J⟩ := freezeAll I as
    by_cases ha : a ∈ as
    · refine ⟨os, ?_⟩
      rw [show fzH H (a :: as) os = fzH H as os from by
        funext b
        unfold fzH
        by_cases hb : b ∈ as
        · rw [if_pos (List.mem_cons_of_mem _ hb), if_pos hb]
        · rw [if_neg hb, if_neg (fun z => by rcases List.mem_cons.mp z with rfl | z <;> contradiction)]]
      exact J
    · have go : ∀ u, H a = some u → ((∃ ks, u = .dK ks) ∨ ∃ ks, u = .dT ks) → ∃ os, Inv X pins σ (fzH H (a :: as) os) s := fun u e hu => by
        obtain ⟨o, J2⟩ := Inv.freeze J (a := a) (u := u) (by rw [fz_out ha]; exact e) hu
        refine ⟨fun b => if b = a then o else os b, ?_⟩
        rw [show fzH H (a :: as) (fun b => if b = a then o else os b) = upd (fzH H as os) a (.frz o u) from by
          funext b
          by_cases hb : b = a
          · subst hb
            rw [upd_same]
            rcases hu with ⟨ks, rfl⟩ | ⟨ks, rfl⟩
            · rw [fz_dK (List.mem_cons_self ..) e, if_pos rfl]
            · rw [fz_dT (List.mem_cons_self ..) e, if_pos rfl]
          · rw [upd_ne hb]
            unfold fzH
            by_cases hb2 : b ∈ as
            · rw [if_pos (List.mem_cons_of_mem _ hb2), if_pos hb2]
              split <;> simp_all
            · rw [if_neg hb2, if_neg (fun z => by rcases List.mem_cons.mp z with rfl | z <;> contradiction)]]
        exact J2
      by_cases hk : ∃ u, H a = some u ∧ ((∃ ks, u = .dK ks) ∨ ∃ ks, u = .dT ks)
      · obtain ⟨u, e, hu⟩ := hk
        exact go u e hu
      · refine ⟨os, ?_⟩
        rw [show fzH H (a :: as) os = fzH H as os from by
          funext b
          by_cases hb : b = a
          · subst hb
            rw [fz_out ha]
            cases e : H b with
            | none => unfold fzH; rw [if_pos (List.mem_cons_self ..), e]
            | some u => exact fz_same e (fun ks z => hk ⟨u, e, .inl ⟨ks, z⟩⟩) (fun ks z => hk ⟨u, e, .inr ⟨ks, z⟩⟩)
          · unfold fzH
            by_cases hb2 : b ∈ as
            · rw [if_pos (List.mem_cons_of_mem _ hb2), if_pos hb2]
            · rw [if_neg hb2, if_neg (fun z => by rcases List.mem_cons.mp z with rfl | z <;> contradiction)]]
        exact J
def asOf (m : Mp) : Wv → List Addr
  | .r i => [m.ix i]
  | _ => []
/-- only what is newer than n is pinned -/
def AsNew (m : Mp) (n n' : Nat) (as : List Addr) : Prop := ∀ a ∈ as, ∃ i, n ≤ i ∧ i < n' ∧ m.ix i = a
theorem rw_frz {v : V} {w : Wv} {x : PyData} {as : List Addr} {os : Addr → Obj} (S : Sim K H m st) (hn : n ≤ st.length) (r : RW K H m st.length v w) (e : frzW n st w = some x) (ha : ∀ a ∈ asOf m w, a ∈ as) : Rp K (fzH H as os) (Off m n) v x := by
  have kp : Kp K H (Off m st.length) (fzH H as os) (Off m n) := fz_kp fun a z => off_le hn z
  unfold frzW at e
  split at e
  · cases e; exact Rp.mv r kp
  · rename_i i
    split at e
    · rename_i hi
      have hz : Off m n (m.ix i) := ⟨fun j hj q => by have := S.inj j i (by omega) r.1 q; omega, S.fi i r.1⟩
      rw [r.2]
      split at e
      · rename_i xs e1
        cases e
        obtain ⟨vs, h1, h2⟩ := S.ob i _ e1
        exact .lst (.inl ⟨fz_same h1 (fun _ z => nomatch z) (fun _ z => nomatch z), hz⟩) (h2.mv kp)
      · rename_i es e1
        cases e
        obtain ⟨vs, h1, h2⟩ := S.ob i _ e1
        exact .dic (fz_dK (ha _ (by simp [asOf])) h1) (RpK.kp kp _ _ h2)
      · rename_i es e1
        cases e
        obtain ⟨vs, h1, h2⟩ := S.ob i _ e1
        exact .dit (fz_dT (ha _ (by simp [asOf])) h1) (RpT.kp kp _ _ h2)
      · rename_i es e1
        cases e
        exact Rp.mv (show Rp K H (Off m st.length) (.ref (m.ix i)) (.dict es) from S.ob i _ e1) kp
      · rename_i xs e1
        cases e
        exact (FzL.mv (show FzL K H (Off m st.length) (m.ix i) xs from S.ob i _ e1) kp).rp
      · cases e
    · cases e
  · cases e
theorem rws_frz {as : List Addr} {os : Addr → Obj} : ∀ {vs : List V} {ws : List Wv} {xs : List PyData} (S : Sim K H m st) (hn : n ≤ st.length) (r : RWs K H m st.length vs ws) (e : frzA n st ws = some xs) (ha : ∀ a ∈ ws.flatMap (asOf m), a ∈ as), RpA K (fzH H as os) (Off m n) vs xs
  | _, _, _, S, hn, .nil, e, _ => by cases e; exact .nil
  | _, _, _, S, hn, .cons r1 r2, e, ha => by
    unfold frzA at e
    split at e
    · rename_i x xs e1 e2
      cases e
      exact .cons (rw_frz S hn r1 e1 fun a h => ha a (by simp [h])) (rws_frz S hn r2 e2 fun a h => ha a (by simp only [List.flatMap_cons, List.mem_append]; exact .inr h))
    · cases e
/-- the same without dicts of the store -/
def frzL (n : Nat) (st : Sto) (w : Wv) : Option PyData := match w with
  | .d x => some x
  | .r i => if n ≤ i then match st[i]? with
    | some (.lst xs) => some (.list xs)
    | _ => none
    else none
  | .x _ _ _ => none
theorem rl_frz {v : V} {w : Wv} {x : PyData} (S : Sim K H m st) (hn : n ≤ st.length) (r : RW K H m st.length v w) (e : frzL n st w = some x) : Rp K H (Off m n) v x := by
  unfold frzL at e
  split at e
  · cases e; exact Rp.mv r (.le hn)
  · rename_i i
    split at e
    · rename_i hi
      have hz : Off m n (m.ix i) := ⟨fun j hj q => by have := S.inj j i (by omega) r.1 q; omega, S.fi i r.1⟩
      rw [r.2]
      split at e
      · rename_i xs e1
        cases e
        obtain ⟨vs, h1, h2⟩ := S.ob i _ e1
        exact .lst (.inl ⟨h1, hz⟩) (h2.mv (.le hn))
      · cases e
    · cases e
  · cases e
def newA (n : Nat) (m : Mp) : Wv → List Addr
  | .r i => if n ≤ i then [m.ix i] else []
  | _ => []
theorem newA_new {n n' : Nat} {w : Wv} (h : ∀ i, w = .r i → i < n') : AsNew m n n' (newA n m w) := fun a ha => by
  cases w with
  | d x => cases ha
  | x a c d => cases ha
  | r i =>
    by_cases hi : n ≤ i
    · simp only [newA, if_pos hi, List.mem_singleton] at ha
      exact ⟨i, hi, h i rfl, ha.symm⟩
    · simp only [newA, if_neg hi] at ha
      cases ha
theorem newA_all {w : Wv} {x : PyData} (e : frzW n st w = some x) : ∀ a ∈ asOf m w, a ∈ newA n m w := fun a ha => by
  cases w with
  | d x => cases ha
  | x a c d => cases ha
  | r i =>
    by_cases hi : n ≤ i
    · simp only [newA, if_pos hi]; exact ha
    · simp only [frzW, if_neg hi] at e
      cases e
theorem newAs_new {n n' : Nat} : ∀ {vs : List V} {ws : List Wv}, RWs K H m n' vs ws → AsNew m n n' (ws.flatMap (newA n m))
  | _, _, .nil => fun a ha => by cases ha
  | _, _, .cons r1 r2 => fun a ha => by
    rw [List.flatMap_cons, List.mem_append] at ha
    rcases ha with ha | ha
    · exact newA_new (fun i e => by subst e; exact r1.1) a ha
    · exact newAs_new r2 a ha
theorem frzA_mem : ∀ {ws : List Wv} {xs : List PyData}, frzA n st ws = some xs → ∀ w ∈ ws, ∃ x, frzW n st w = some x
  | [], _, _, w, hw => by cases hw
  | u :: r, xs, e, w, hw => by
    unfold frzA at e
    split at e
    · rename_i x ys e1 e2
      rcases List.mem_cons.mp hw with rfl | hw
      · exact ⟨x, e1⟩
      · exact frzA_mem e2 w hw
    · cases e
theorem Sim.fz' {as : List Addr} {os : Addr → Obj} (S : Sim K H m st) (h : n ≤ st.length) (hA : ∀ i, i < n → m.ix i ∉ as) : Sim K (fzH H as os) m (st.take n) := by
  have T := S.take h
  have hl : (st.take n).length = n := by rw [List.length_take]; omega
  have kp : Kp K H (Off m (st.take n).length) (fzH H as os) (Off m (st.take n).length) := fz_kp fun a z => z
  refine ⟨fun i o e => ?_, T.inj, fun a z => fz_nn (T.ff a z), T.fi, ?_⟩
  · have hi : i < n := by have := (List.getElem?_eq_some_iff.mp e).1; omega
    have no : m.ix i ∉ as := hA i hi
    have q := T.ob i o e
    cases o with
    | lst xs => obtain ⟨vs, h1, h2⟩ := q; exact ⟨vs, by rw [fz_out no]; exact h1, h2.mv kp⟩
    | dct kvs => obtain ⟨vs, h1, h2⟩ := q; exact ⟨vs, by rw [fz_out no]; exact h1, RpK.kp kp _ _ h2⟩
    | dtt kvs => obtain ⟨vs, h1, h2⟩ := q; exact ⟨vs, by rw [fz_out no]; exact h1, RpT.kp kp _ _ h2⟩
    | lkd es => exact Rp.mv q kp
    | lkl xs => exact FzL.mv q kp
  · exact fz_tabs T.tb
theorem Sim.fz {as : List Addr} {os : Addr → Obj} (S : Sim K H m st) (h : n ≤ st.length) (hA : AsNew m n st.length as) : Sim K (fzH H as os) m (st.take n) := S.fz' h fun i hi z => by
  obtain ⟨j, h1, h2, h3⟩ := hA _ z
  have := S.inj j i h2 (by omega) h3
  omega
theorem fz_one {H : Hp} {p : Addr} {o : Obj} {xs : List (Key × V)} : fzH (upd H p (.dK xs)) [p] (fun _ => o) = upd H p (.frz o (.dK xs)) := by
  funext b
  by_cases hb : b = p
  · subst hb; rw [fz_dK (List.mem_cons_self ..) upd_same, upd_same]
  · rw [fz_out (by simpa using hb), upd_ne hb, upd_ne hb]
theorem Fol.fz {as : List Addr} {os : Addr → Obj} (f : Fol m n H m' n' H') (hA : AsNew m' n n' as) : Fol m n H m' n' (fzH H' as os) := by
  have no : ∀ {a}, Nn H a → a ∉ as := fun {a} h z => by
    obtain ⟨i, h1, h2, h3⟩ := hA _ z
    exact f.new i h1 h2 (h3 ▸ h)
  exact ⟨fun a xs e => fz_same (f.tup a xs e) (fun _ z => nomatch z) (fun _ z => nomatch z), fun a o u e => fz_same (f.frz a o u e) (fun _ z => nomatch z) (fun _ z => nomatch z), fun a o nt e z => by rw [fz_out (no ⟨o, e, nt⟩)]; exact f.rest a o nt e z, f.old, f.new, f.le, fun a h => fz_nn (f.dom a h), f.eF⟩
/-- a newer object becomes the next one -/
theorem Sim.keep1 {i : Nat} {o : Ob} (S : Sim K H m st) (hn : n ≤ i) (e : st[i]? = some o) : Sim K H (mup m n (m.ix i)) (st.take n ++ [o]) := by
  have hi : i < st.length := (List.getElem?_eq_some_iff.mp e).1
  have hl : (st.take n).length = n := by rw [List.length_take]; omega
  have hl2 : (st.take n ++ [o]).length = n + 1 := by simp [hl]
  have hx : ∀ j, j < n → m.ix j ≠ m.ix i := fun j hj q => by have := S.inj j i (by omega) hi q; omega
  have kp : Kp K H (Off m st.length) H (Off (mup m n (m.ix i)) (n + 1)) := ⟨fun _ _ q => q, fun _ _ _ q => q, fun a o _ q z => ⟨q, fun j hj e2 => by
    by_cases q : j < n
    · rw [mup_old q] at e2; exact z.1 j (by omega) e2
    · rw [show j = n by omega, mup_new] at e2; exact z.1 i hi e2
  , z.2⟩⟩
  refine ⟨fun j u e2 => ?_, fun j l hj hk e2 => ?_, S.ff, fun j hj => ?_, S.tb⟩
  · rw [hl2]
    by_cases q : j < n
    · rw [List.getElem?_append_left (by omega), List.getElem?_take_of_lt q] at e2
      have h := S.ob j u e2
      rw [mup_old q]
      cases u with
      | lst xs => obtain ⟨vs, h1, h2⟩ := h; exact ⟨vs, h1, h2.mv kp⟩
      | dct kvs => obtain ⟨vs, h1, h2⟩ := h; exact ⟨vs, h1, RpK.kp kp _ _ h2⟩
      | dtt kvs => obtain ⟨vs, h1, h2⟩ := h; exact ⟨vs, h1, RpT.kp kp _ _ h2⟩
      | lkd es => exact Rp.mv h kp
      | lkl xs => exact FzL.mv h kp
    · have ej : j = n := by have := (List.getElem?_eq_some_iff.mp e2).1; omega
      subst ej
      rw [List.getElem?_append_right (by omega), hl] at e2
      simp at e2
      subst e2
      rw [mup_new]
      have h := S.ob i o e
      cases o with
      | lst xs => obtain ⟨vs, h1, h2⟩ := h; exact ⟨vs, h1, h2.mv kp⟩
      | dct kvs => obtain ⟨vs, h1, h2⟩ := h; exact ⟨vs, h1, RpK.kp kp _ _ h2⟩
      | dtt kvs => obtain ⟨vs, h1, h2⟩ := h; exact ⟨vs, h1, RpT.kp kp _ _ h2⟩
      | lkd es => exact Rp.mv h kp
      | lkl xs => exact FzL.mv h kp
  · rw [hl2] at hj hk
    by_cases q : j < n
    · by_cases q2 : l < n
      · rw [mup_old q, mup_old q2] at e2; exact S.inj j l (by omega) (by omega) e2
      · rw [mup_old q, show l = n by omega, mup_new] at e2; exact absurd e2 (hx j q)
    · by_cases q2 : l < n
      · rw [show j = n by omega, mup_new, mup_old q2] at e2; exact absurd e2.symm (hx l q2)
      · omega
  · rw [hl2] at hj
    by_cases q : j < n
    · rw [mup_old q]; exact S.fi j (by omega)
    · rw [show j = n by omega, mup_new]; exact S.fi i hi
theorem Fol.keep1 {i : Nat} (f : Fol m n H m' n' H') (hi : n ≤ i) (hi2 : i < n') : Fol m n H (mup m' n (m'.ix i)) (n + 1) H' where
  tup := f.tup
  frz := f.frz
  rest := f.rest
  old j hj := by rw [mup_old hj]; exact f.old j hj
  new j h1 h2 := by rw [show j = n by omega, mup_new]; exact f.new i hi hi2
  le := Nat.le_succ n
  dom := f.dom
  eF := f.eF
end
/-- what a scope must tell -/
def fnT (B : Tb) (sc : Scope) : Bool :=
  (B.us.all fun i => match B.N[i]? with | some x => kdV (sc.names.lookup x) | none => true) &&
  ((B.ls.all fun i => match B.N[i]? with | some x => kdL (sc.names.lookup x) | none => true) &&
  ((B.ps.all fun i => match B.N[i]? with | some x => decide (sc.names.lookup x = some .local) | none => true) &&
  ((B.gs.all fun x => kdG (sc.names.lookup x)) && ((B.cs.all fun x => kdC (sc.names.lookup x)) && B.fn))))
theorem kdV_vis {sc : Scope} {x : Str} (h : kdV (sc.names.lookup x) = true) : Vis sc x := by
  unfold kdV at h
  split at h
  · exact .inl (by assumption)
  · exact .inr (.inl (by assumption))
  · exact .inr (.inr (by assumption))
  · cases h
theorem kdL_loc {sc : Scope} {x : Str} (h : kdL (sc.names.lookup x) = true) : Loc sc x := by
  unfold kdL at h
  split at h
  · exact .inl (by assumption)
  · exact .inr (by assumption)
  · cases h
theorem kdC_cap {sc : Scope} {x : Str} (h : kdC (sc.names.lookup x) = true) : sc.names.lookup x = some .cell ∨ sc.names.lookup x = some .free := by
  unfold kdC at h
  split at h
  · exact .inl (by assumption)
  · exact .inr (by assumption)
  · cases h
theorem kdG_gl {sc : Scope} {x : Str} (h : kdG (sc.names.lookup x) = true) : sc.names.lookup x = some .globalImplicit := by
  unfold kdG at h
  split at h
  · assumption
  · cases h
theorem SR.post_end {x : SR} {n : Nat} {Q : Wv → Sto → Prop} {E : Xc → Sto → Prop} (h : (endS n x).post Q E) : x.post (fun _ st => Q (.d .none) (st.take n)) (fun p st => (endR n st p).post Q E) (fun e st => E e (st.take n)) := by
  cases x with
  | nx env st => exact h
  | rt p st => exact h
  | ex e st => exact h
  | no => exact h
/-- a def, by its body -/
theorem fnk_of {M : Md} {B : Tb} {k : Nat} {f : Addr} {name qual : Str} {params : Arguments} {body : List Stmt} {scope : Scope} {dV kV doc pm cdv ct oc : Value} {an od : Option Addr} {osl : Array (Option Value)} {ps : List Str} {cb : En → Sto → SR} {np nN : Nat}
    (hf : M.K.lookup f = some ⟨oc, od, .func (PySem.W.fnOf name qual params body scope dV kV doc pm an cdv ct), osl⟩) (hcode : PySem.W.codeIn M.K cdv qual = true) (SC : FnScope B.N ps scope) (hT : fnT B scope = true) (hnp : ps.length = np) (hnN : B.N.length = nN)
    (hb : ∀ X : Cx, Cxt M X B k → DB X body cb) (hlam : ∀ q, B.lq = some q → (qual ++ ".<locals>.") ++ "<lambda>" = q ∧ LamC M.mg M.base q cdv := by intro _ h; exact nomatch (show (none : Option Str) = some _ from h)) : Fnk M B.gd (k + 1) f (PySem.W.fnOf name qual params body scope dV kV doc pm an cdv ct) ps (mkF np nN cb) := by
  have arity : ∀ ws st Q E, (mkF np nN cb ws st).post Q E → ws.length = ps.length := fun ws st Q E h => by
    unfold mkF at h
    split at h
    · rw [hnp]; assumption
    · exact h.elim
  refine ⟨arity, fun A outer s H args us vs ws m st Q E room guard e0 bound rv S rw0 hp => ?_⟩
  have hwl := arity _ _ _ _ hp
  have hvl : vs.length = ps.length := rw0.len.trans hwl
  have inK : M.K.In s.heap := e0.mod.kin.keeps fun b o e => (e0.bs b o e).1
  have noLim : s.heap.NoLimit := e0.mod.nolimit.keeps fun b o e => (e0.bs b o e).1
  have kinds : ∀ y ∈ ps.zip us, scope.names.lookup y.1 = some .local ∨ (scope.names.lookup y.1 = some .cell ∧ ((cellsFrom (s.heap.objs.size + 1) scope.names []).lookup y.1).isSome = true) := by
    rintro ⟨y, v⟩ hy
    have hy' := SC.par y (List.of_mem_zip hy).1
    exact hy'.imp id fun q => ⟨q, PySem.W.cellsFrom_some _ _ _ (.inl q)⟩
  refine codeAny_call_function room.depth (inK _ _ hf) rfl SC.co SC.gen rfl (PySem.W.codeRec_of inK hcode) (bound _ _ _ _ (wpAny_newFunctionEnv_cells SC.kind kinds fun env henv s1 x => ?_))
  subst henv
  refine ⟨noLim.keeps x.toInCall.keep, codeAny_func ?_⟩
  generalize hX : cxOf (L2.CX M.P M.w) M.P M.w M.K M.mg M.base B.N qual scope f cdv A outer s H E = X
  have hI : Inv X [] (start B.N vs) H s1 := by rw [← hX]; exact inv_start SC room.hd e0 hvl rv x
  unfold fnT at hT
  simp only [Bool.and_eq_true, List.all_eq_true, decide_eq_true_eq] at hT
  obtain ⟨t1, t2, t3, t4, t5, t6⟩ := hT
  have hC : Cxt M X B k := by
    subst hX
    refine ⟨rfl, rfl, rfl, rfl, rfl, rfl, SC.nd, rfl, fun _ => SC.kind, room.deeper _, guard, fun i hi x hx => ?_, fun i hi x hx => ?_, fun i hi x hx => ?_, fun j x hx => kdG_gl (t4 x (List.mem_of_getElem? hx)), fun x hx => kdC_cap (t5 x hx), fun _ => passes_of rfl, hlam, fun _ => ⟨rfl, rfl⟩⟩
    · have q := t1 i hi
      rw [hx] at q
      exact kdV_vis q
    · have q := t2 i hi
      rw [hx] at q
      exact ⟨kdL_loc q, .inl rfl⟩
    · have q := t3 i hi
      rw [hx] at q
      exact of_decide_eq_true q
  have tk : Takes X (fun c d _ H' => E c d H') := by subst hX; exact takes_of rfl rfl rfl rfl
  have hR : EnvR X.K H m st.length (ws.map some ++ List.replicate (nN - ws.length) none) (start B.N vs) := by
    refine ⟨?_, fun i w hw => ?_⟩
    · unfold L2.start; simp [rw0.len, hnN]
    · have hi : i < ws.length := by
        rcases Nat.lt_or_ge i ws.length with z | z
        · exact z
        · rw [List.getElem?_append_right (by simpa using z)] at hw
          have := List.mem_of_getElem? hw
          simp at this
      rw [List.getElem?_append_left (by simpa using hi)] at hw
      have get : ∀ {vs : List V} {ws : List Wv} {i : Nat} {w : Wv}, RWs M.K H m st.length vs ws → ws[i]? = some w → ∃ v, vs[i]? = some v ∧ RW M.K H m st.length v w := by
        intro vs ws i w r
        induction r generalizing i with
        | nil => intro e; simp at e
        | cons r1 _ ih =>
          intro e
          cases i with
          | zero => simp at e; subst e; exact ⟨_, rfl, r1⟩
          | succ i => simpa using ih (by simpa using e)
      obtain ⟨v, hv, r⟩ := get rw0 (i := i) (w := w) (by simpa [hi] using hw)
      refine ⟨v, ?_, by subst hX; exact r⟩
      unfold L2.start
      rw [List.getElem?_append_left (by have := (List.getElem?_eq_some_iff.mp hv).1; simpa using this)]
      simp [hv]
  have hK : X.K = M.K := hC.hK
  have hmg : X.mg = M.mg := hC.mg
  have run := ((hb X hC).pss _ tk).run [] s1 (start B.N vs) H { nx := fun _ H' => Q .non H', rt := fun v H' => ∃ as, ∀ os, Q v (fzH H' as os) } hI
  unfold mkF at hp
  rw [if_pos (hwl.trans hnp)] at hp
  have hp2 := SR.post_end hp
  have fin : ∀ {σ' : L2.St} {H' : Hp} {v : V} {u : Value} {s' : Shared}, Inv X [] σ' H' s' → RelV v u → Q v H' → CE outer M.P M.w H s Q u s' := fun {σ' H' v u s'} J rv q => by
    subst hX
    exact ⟨v, H', J.os, J.bare, J.base, J.hok, rv, q⟩
  have hA : X.A = A.deeper (envOfC qual scope s.heap.objs.size f cdv) := by rw [← hX]; rfl
  have hxe : ∀ e s', X.xe e s' = wpAny (model M.P M.w) (A.deeper (envOfC qual scope s.heap.objs.size f cdv)) (leaving (envOfC qual scope s.heap.objs.size f cdv) e) (fun _ s'' => L2.CX M.P M.w outer H s E e s'') (fun e' s'' => L2.CX M.P M.w outer H s E e' s'') s' := fun e s' => by rw [← hX]; rfl
  have run2 := run ⟨m, _, st, by rw [hK]; exact S, hR, SR.post_mono hp2 (fun env st' q σ' H' m' f S' _ => ?_) (fun p st' q v H' m' f S' r => ?_) fun e st' q c d σ' H' m' f S' r => ?_⟩
  · subst hX
    refine wpAny_mono run2 (fun fl s' hs => ?_) fun e s' hs => hs
    cases fl with
    | ret u => obtain ⟨v, σ', H', J, rv, as, q⟩ := hs; obtain ⟨os, J2⟩ := freezeAll J as; exact fin J2 rv (q os)
    | next => obtain ⟨σ', H', J, q⟩ := hs; exact fin (v := V.non) (u := Value.none) J rfl q
    | brk => obtain ⟨_, _, _, q⟩ := hs; exact q.elim
    | cont => obtain ⟨_, _, _, q⟩ := hs; exact q.elim
  · have tl : (st'.take st.length).length = st.length := by rw [List.length_take]; have := f.le; omega
    rw [hK] at S'
    exact q .non H' m' (by rw [tl]; exact f.back) (S'.take f.le) .non
  · have tl : (st'.take st.length).length = st.length := by rw [List.length_take]; have := f.le; omega
    rw [hK] at S' r
    have plain : Q v H' → ∃ as, ∀ os, Q v (fzH H' as os) := fun z => ⟨[], fun os => by rw [fz_nil]; exact z⟩
    unfold endR at q
    split at q
    · exact plain (q _ H' m' (by rw [tl]; exact f.back) (S'.take f.le) (by rw [tl]; exact Rp.mv r (.le f.le)))
    · exact q.elim
    · rename_i i
      split at q
      · rename_i hi
        exact plain (q _ H' m' (by rw [tl]; exact f.back) (S'.take f.le) (by rw [tl]; exact ⟨hi, r.2⟩))
      · rename_i hi
        split at q
        · rename_i o eo
          have tl2 : (st'.take st.length ++ [o]).length = st.length + 1 := by simp [tl]
          exact plain (q _ H' (mup m' st.length (m'.ix i)) (by rw [tl2]; exact f.keep1 (by omega) r.1) (S'.keep1 (by omega) eo) (by rw [tl2]; exact ⟨Nat.lt_succ_self _, by rw [mup_new]; exact r.2⟩))
        · exact q.elim
    · rename_i w
      split at q
      · rename_i x ex
        have hA : AsNew m' st.length st'.length (newA st.length m' w) := newA_new (fun i e => by subst e; exact r.1)
        exact ⟨newA st.length m' w, fun os => q _ _ m' (by rw [tl]; exact (f.fz hA).back) (S'.fz f.le hA) (by rw [tl]; exact rw_frz S' f.le r ex (newA_all ex))⟩
      · exact q.elim
    · rename_i ws
      split at q
      · rename_i xs ex
        obtain ⟨a, us', rfl, h1, h2⟩ := r
        have hA : AsNew m' st.length st'.length (ws.flatMap (newA st.length m')) := newAs_new h2
        exact ⟨ws.flatMap (newA st.length m'), fun os => q _ _ m' (by rw [tl]; exact (f.fz hA).back) (S'.fz f.le hA) (by rw [tl]; exact .tup (.inl (fz_same h1 (fun _ z => nomatch z) (fun _ z => nomatch z))) (rws_frz S' f.le h2 ex fun a ha => by
          obtain ⟨w, hw, hb⟩ := List.mem_flatMap.mp ha
          obtain ⟨x, ex2⟩ := frzA_mem ex w hw
          exact List.mem_flatMap.mpr ⟨w, hw, newA_all ex2 a hb⟩))⟩
      · exact q.elim
  · have tl : (st'.take st.length).length = st.length := by rw [List.length_take]; have := f.le; omega
    rw [hK] at S' r
    rw [hmg] at r
    refine q c d H' m' (by rw [tl]; exact f.back) (S'.take f.le) ⟨r.cls, ?_⟩
    rw [tl]
    rcases r.fld with z | ⟨dd, h1, fs, h2, h3, h4, h5⟩
    · exact .inl z
    · exact .inr ⟨dd, h1, fs, h2, h3, h4.mv (.le f.le), off_le f.le h5⟩
def eCall (mf : List Wv → Sto → Rs Wv) (cs : En → Sto → Rs (List Wv)) : En → Sto → Rs Wv := fun env st => (cs env st).bind mf
section
variable {M : Md} {X : Cx} {B : Tb} {k : Nat} {f : Addr} {fd : FuncData} {ps : List Str} {mf : List Wv → Sto → Rs Wv} {cs : En → Sto → Rs (List Wv)} {x : Str} {p pos : Pos} {e : Expr} {es : List Expr}
theorem de_call {g : Bool} (c : Cxt M X B k) (F : Fnk M g k f fd ps mf) (j : Nat) (hg : B.gs[j]? = some x) (hm : M.mg x = some (.ref f)) (hk : PySem.W.keepIn M.K (.ref f) = true) (hb : Binds M.K fd ps []) (ha : DA X (e :: es) cs) (hgd : g = true → B.gd = true) (hdb : (x == ("__debug__" : Str)) = false := by decide)
    (he : starEach (e :: es) X.env = (false, eval e X.env) :: starEach es X.env := by rfl) (hpl : (backTo pos (starEach es X.env)).any (·.1) = false := by rfl) : DE X (.Call (.Name x p) (e :: es) [] pos) (eCall mf cs) := by
  obtain ⟨P, w, K, mg, base⟩ := M
  obtain ⟨rfl, rfl, rfl, rfl, rfl⟩ : X.prog = P ∧ X.w = w ∧ X.K = K ∧ X.mg = mg ∧ X.base = base := ⟨c.hP, c.hw, c.hK, c.mg, c.hb⟩
  refine .mk' fun W pins σ H s m env st Q tk I S R hp => ?_
  unfold eCall at hp
  rw [Rs.post_bind] at hp
  refine wpAny_Call_Name_kw (ld_glob I (c.gl j x hg) hm ?_ hdb)
  refine PySem.W.callWith_K (h₀ := X.base) I.ok.mod.kin hk (ha.go tk I S R pos (Rs.post_mono hp (fun ws st1 q vs H1 m1 us s1 I1 rv f1 S1 r1 => ⟨I1.kIn, ?_⟩) fun _ _ q => q)) he hpl
  have hl : us.length = ps.length := by rw [← rv.length, r1.len]; exact F.len _ _ _ _ q
  have bd := hb s1 us I1.kIn (by rw [List.append_nil]; exact hl)
  rw [List.append_nil] at bd
  refine wpAny_call (codeAny_mono (F.run X.A X.stack s1 H1 ⟨us, []⟩ us vs ws m1 st1 (fun v H' => ∀ u s', Inv X pins σ H' s' → RelV v u → Q u s') (WE W σ) c.room (fun z => c.gu (hgd z)) I1.env0 bd rv S1 r1 (Rs.post_mono q (fun w st2 q2 v H2 m2 f2 S2 r2 u s2 I2 rv2 => ?_) fun e st2 q2 c d H2 m2 f2 S2 r2 => ?_)) fun r s2 hq => ?_)
  · exact q2 v H2 m2 u s2 I2 rv2 (f1.trans f2) S2 r2
  · exact q2 c d H2 m2 (f1.trans f2) S2 r2
  · cases r with
    | error e => exact passAt tk σ pins H1 s1 e s2 I1 hq
    | ok fl =>
      cases fl with
      | ret u =>
        obtain ⟨v, H2, I2, rv2, q2⟩ := I1.after hq
        exact q2 u s2 I2 rv2
      | next => exact False.elim hq
      | brk => exact False.elim hq
      | cont => exact False.elim hq
end
end
section
variable [Wtp] [Tbl]
/-! ## the store is written -/
section
variable {K : Frg} {H H' : Hp} {m m' : Mp} {st : Sto} {n n' : Nat}
theorem Kp.wr {i : Nat} {o o' : HO} (hi : i < n) (h : H (m.ix i) = some o) (ho : (∃ xs, o = .lst xs) ∨ (∃ kvs, o = .dK kvs) ∨ ∃ kvs, o = .dT kvs) : Kp K H (Off m n) (upd H (m.ix i) o') (Off m n) := by
  refine ⟨fun a xs e => ?_, fun a q u e => ?_, fun a q _ e z => ⟨?_, z⟩⟩
  · rw [upd_ne]; exact e
    intro q; rw [q, h] at e
    rcases ho with ⟨_, rfl⟩ | ⟨_, rfl⟩ | ⟨_, rfl⟩ <;> cases e
  · rw [upd_ne]; exact e
    intro q; rw [q, h] at e
    rcases ho with ⟨_, rfl⟩ | ⟨_, rfl⟩ | ⟨_, rfl⟩ <;> cases e
  · rw [upd_ne]; exact e
    exact fun q => z.1 i hi q.symm
theorem Fol.wr {i : Nat} {o o' : HO} (hi : i < n) (h : H (m.ix i) = some o) (ho : (∃ xs, o = .lst xs) ∨ (∃ kvs, o = .dK kvs) ∨ ∃ kvs, o = .dT kvs) (nt : NT o' := by exact fun _ z => nomatch z) : Fol m n H m n (upd H (m.ix i) o') := by
  have kp := Kp.wr (K := ([] : Frg)) (o' := o') hi h ho
  refine ⟨kp.tup, kp.frz, fun a u _ e z => ?_, fun _ _ => rfl, fun i a b => absurd b (by omega), Nat.le_refl _, fun a e => ?_, fun _ _ => Iff.rfl⟩
  · rw [upd_ne]; exact e
    exact fun q => z i hi q.symm
  · by_cases q : a = m.ix i
    · rw [q]; exact ⟨_, upd_same, nt⟩
    · obtain ⟨u, e1, e2⟩ := e
      exact ⟨u, by rw [upd_ne q]; exact e1, e2⟩
theorem Sim.wr {i : Nat} {o o' : HO} {ob : Ob} (S : Sim K H m st) (hi : i < st.length) (h : H (m.ix i) = some o) (ho : (∃ xs, o = .lst xs) ∨ (∃ kvs, o = .dK kvs) ∨ ∃ kvs, o = .dT kvs) (hob : ObAt K (upd H (m.ix i) o') m st.length (m.ix i) ob) (nt : NT o' := by exact fun _ z => nomatch z) : Sim K (upd H (m.ix i) o') m (st.set i ob) := by
  have kp := Kp.wr (K := K) (o' := o') hi h ho
  have f := Fol.wr (o' := o') hi h ho nt
  have hl : (st.set i ob).length = st.length := List.length_set
  refine ⟨fun j u e => ?_, fun a b ha hb => S.inj a b (hl ▸ ha) (hl ▸ hb), fun a z => f.dom a (S.ff a z), fun j hj => S.fi j (hl ▸ hj), S.tb.wr h ho⟩
  rw [hl]
  by_cases q : i = j
  · subst q
    rw [List.getElem?_set_self hi] at e
    cases e
    exact hob
  · rw [List.getElem?_set_ne q] at e
    have hj : j < st.length := (List.getElem?_eq_some_iff.mp e).1
    have ne : m.ix j ≠ m.ix i := fun z => q (S.inj j i hj hi z).symm
    have old := S.ob j u e
    cases u with
    | lst xs => obtain ⟨vs, h1, h2⟩ := old; exact ⟨vs, by rw [upd_ne ne]; exact h1, h2.mv kp⟩
    | dct kvs => obtain ⟨vs, h1, h2⟩ := old; exact ⟨vs, by rw [upd_ne ne]; exact h1, RpK.kp kp _ _ h2⟩
    | dtt kvs => obtain ⟨vs, h1, h2⟩ := old; exact ⟨vs, by rw [upd_ne ne]; exact h1, RpT.kp kp _ _ h2⟩
    | lkd es => exact Rp.mv old kp
    | lkl xs => exact FzL.mv old kp
end
/-- a method that writes a list of the store -/
def isLst (st : Sto) (w : Wv) : Bool := match w with
  | .r i => match st[i]? with
    | some (.lst _) => true
    | _ => false
  | _ => false
def eM (g : Wv → List Wv → Sto → Rs Wv) (co : En → Sto → Rs Wv) (cs : En → Sto → Rs (List Wv)) : En → Sto → Rs Wv := fun env st => (co env st).bind fun w st1 => if isLst st1 w = true then (cs env st1).bind fun ws st2 => g w ws st2 else .no
def appW (w : Wv) (ws : List Wv) (st : Sto) : Rs Wv := match w, ws with
  | .r i, [.d y] => match st[i]? with
    | some (.lst xs) => if xs.length < 1000000 then .ok (.d .none) (st.set i (.lst (xs ++ [y]))) else .no
    | _ => .no
  | _, _ => .no
def extW (w : Wv) (ws : List Wv) (st : Sto) : Rs Wv := match w, looks ws st with
  | .r i, some [.list ys] => match st[i]? with
    | some (.lst xs) => if xs.length + ys.length ≤ 1000000 then .ok (.d .none) (st.set i (.lst (xs ++ ys))) else .no
    | _ => .no
  | _, _ => .no
section
variable {M : Md} {X : Cx} {B : Tb} {k : Nat} {pins : List (Addr × Obj)} {σ : L2.St} {H : Hp} {s : Shared} {m : Mp} {env : En} {st : Sto} {W : WX} {pos apos : Pos} {o e : Expr} {es : List Expr} {co ce : En → Sto → Rs Wv} {cs : En → Sto → Rs (List Wv)} {g : Wv → List Wv → Sto → Rs Wv}
theorem slot_at {v : V} {i : Nat} {xs : List PyData} (S : Sim X.K H m st) (r : RW X.K H m st.length v (.r i)) (e : st[i]? = some (.lst xs)) : ∃ us, v = .ref (m.ix i) ∧ H (m.ix i) = some (.lst us) ∧ RpA X.K H (Off m st.length) us xs := by
  obtain ⟨us, h1, h2⟩ := S.ob i _ e
  exact ⟨us, r.2, h1, h2⟩
theorem isLst_ty {v : V} {w : Wv} (S : Sim X.K H m st) (r : RW X.K H m st.length v w) (h : isLst st w = true) : tyV X.K "list" v H := by
  unfold isLst at h
  split at h
  · split at h
    · rename_i i _ xs e
      obtain ⟨us, rfl, h1, _⟩ := slot_at S r e
      exact .inl ⟨rfl, us, .inl (.inl h1)⟩
    · cases h
  · cases h
theorem te_mut {r : V → List V → Hp → VK → Prop} {Q : VK} (h : tE X W (eM g co cs) σ H Q)
    (q : ∀ (m : Mp) (st : Sto) (w : Wv) (ws : List Wv) (st2 : Sto) (v : V) (vs : List V) (H2 : Hp) (m2 : Mp), Fol m st.length H m2 st2.length H2 → Sim X.K H2 m2 st2 → RW X.K H2 m2 st2.length v w → RWs X.K H2 m2 st2.length vs ws → (g w ws st2).post (okE X m st.length H Q) (okX X W m st.length H σ) → r v vs H2 Q) :
    tBM X.K "list" r (tE X W co) (tA X W cs) σ H Q := by
  obtain ⟨m, env, st, S, R, hp⟩ := h
  unfold eM at hp
  rw [Rs.post_bind] at hp
  refine ⟨m, env, st, S, R, Rs.post_mono hp (fun w st1 q1 v H1 m1 f1 S1 r1 => ?_) fun _ _ q => q⟩
  split at q1
  · rename_i hw
    rw [Rs.post_bind] at q1
    exact ⟨isLst_ty S1 r1 hw, m1, env, st1, S1, R.mv f1, Rs.post_mono q1 (fun ws st2 q2 vs H2 m2 f2 S2 r2 => q m st w ws st2 v vs H2 m2 (f1.trans f2) S2 (r1.mv f2) r2 q2) fun _ _ z => okX.tr f1 z⟩
  · exact q1.elim
/-- the end of a write -/
theorem wr_end {H2 : Hp} {m2 : Mp} {st0 st2 : Sto} {i : Nat} {us vs : List V} {ds : List PyData} {x : PyData} {z : V} {Q : VK} {E : Xc → Sto → Prop} (f : Fol m st0.length H m2 st2.length H2) (S : Sim X.K H2 m2 st2) (hi : i < st2.length) (h : H2 (m2.ix i) = some (.lst us))
    (ra : RpA X.K H2 (Off m2 st2.length) vs ds) (rz : Rp X.K H2 (Off m2 st2.length) z x) (q : (Rs.ok (Wv.d x) (st2.set i (.lst ds))).post (okE X m st0.length H Q) E) : Q z (upd H2 (m2.ix i) (.lst vs)) := by
  have f2 : Fol m2 st2.length H2 m2 st2.length (upd H2 (m2.ix i) (.lst vs)) := .wr hi h (.inl ⟨_, rfl⟩)
  have hl : (st2.set i (Ob.lst ds)).length = st2.length := List.length_set
  refine q z _ m2 (by rw [hl]; exact f.trans f2) (S.wr hi h (.inl ⟨_, rfl⟩) ⟨vs, upd_same, ra.mv f2.kp⟩) ?_
  rw [hl]
  exact rz.mv f2.kp
theorem de_append (ho : DE X o co) (ha : DA X [e] cs) (hbase : attributeBase o "append" X.env (eval o X.env) = eval o X.env := by rfl)
    (hfew : ((backTo pos (starEach [e] X.env)).all (fun x => !x.1) && (backToKw pos (keywordEach [] X.env)).all (fun x => x.1.isSome)
      && decide ([e].length + ([] : List Keyword).length + (if ([] : List Keyword).isEmpty then 0 else 1) < 30)) = true := by rfl)
    (hline : (apos.endLine == pos.line) = true := by rfl) (hs : starEach [e] X.env = (false, eval e X.env) :: starEach [] X.env := by rfl) : DE X (.Call (.Attribute o "append" apos) [e] [] pos) (eM appW co cs) := by
  refine ⟨fun W tk => PE.imp (pe_bm PySem.F.plainAttrs_list PySem.F.slot_list_append PySem.F.type_list_append mt_append (ho.pe W tk) (ha.pa W tk) hbase hfew hline hs rfl) fun σ H Q h => te_mut h fun m st w ws st2 v vs H2 m2 f2 S2 r2 rs q => ?_⟩
  unfold appW at q
  split at q
  · split at q
    · rename_i i y _ xs ex
      split at q
      · rename_i hl
        obtain ⟨us, rfl, h1, h2⟩ := slot_at S2 r2 ex
        obtain ⟨u, rfl, ru⟩ := rws1 rs
        have hi : i < st2.length := (List.getElem?_eq_some_iff.mp ex).1
        refine ⟨_, us, u, rfl, rfl, h1, by rw [h2.len]; have := line_lim; omega, ?_⟩
        exact wr_end f2 S2 hi h1 (h2.app (.cons ru .nil)) .non q
      · exact q.elim
    · exact q.elim
  · exact q.elim
def rExtX (K : Frg) : V → List V → Hp → VK → Prop := fun x vs H Q => ∃ l b xs zs, x = .ref l ∧ vs = [.ref b] ∧ H l = some (.lst xs) ∧ LsX K H b zs ∧ xs.length + zs.length ≤ sizeLine ∧ Q .non (upd H l (.lst (xs ++ zs)))
theorem mt_extX : MtR X "list.extend" (rExtX X.K) := by
  rintro pins s σ H x vs v us Q I rx rv ⟨l, b, xs, zs, rfl, rfl, hl, hb, hz, q⟩
  cases rx
  obtain ⟨u, rfl, ru⟩ := rv.one
  cases ru
  obtain ⟨_, a1, n1, r1, l1, e1⟩ := I.lstM hl
  obtain ⟨a2, n2, r2, e2, _, l2⟩ := Inv.lsx I hb
  have sz : a1.toArray.size + a2.toArray.size ≤ sizeLine := by rw [List.size_toArray, List.size_toArray]; omega
  have nl : ¬ (!a1.toArray.isEmpty && Builtin.List.listTooLong (a1.toArray.size + a2.toArray.size)) = true := by
    rw [notLongL sz, Bool.and_false]
    exact Bool.false_ne_true
  refine call_meets PySem.F.slot_list_extend ⟨_, e1, rfl⟩ PySem.F.entry_list_extend (PySem.F.args_list_extend_2 _ _) (AutoSeq1.list_extend_list_list_0 l a1.toArray n1 b a2.toArray n2 nl (by rw [List.size_toArray]; omega) (by omega)) ⟨e1, e2, ?_⟩
  exact ⟨.non, _, I.lset (its' := a1 ++ a2) hl e1 (by simp) (r1.append r2) (by rw [List.length_append]; omega), rfl, q⟩
theorem de_extend (ho : DE X o co) (ha : DA X [e] cs) (hbase : attributeBase o "extend" X.env (eval o X.env) = eval o X.env := by rfl)
    (hfew : ((backTo pos (starEach [e] X.env)).all (fun x => !x.1) && (backToKw pos (keywordEach [] X.env)).all (fun x => x.1.isSome)
      && decide ([e].length + ([] : List Keyword).length + (if ([] : List Keyword).isEmpty then 0 else 1) < 30)) = true := by rfl)
    (hline : (apos.endLine == pos.line) = true := by rfl) (hs : starEach [e] X.env = (false, eval e X.env) :: starEach [] X.env := by rfl) : DE X (.Call (.Attribute o "extend" apos) [e] [] pos) (eM extW co cs) := by
  refine ⟨fun W tk => PE.imp (pe_bm PySem.F.plainAttrs_list PySem.F.slot_list_extend PySem.F.type_list_extend mt_extX (ho.pe W tk) (ha.pa W tk) hbase hfew hline hs rfl) fun σ H Q h => te_mut h fun m st w ws st2 v vs H2 m2 f2 S2 r2 rs q => ?_⟩
  unfold extW at q
  split at q
  · rename_i i ys el
    split at q
    · rename_i xs ex
      split at q
      · rename_i hl
        obtain ⟨us, rfl, h1, h2⟩ := slot_at S2 r2 ex
        obtain ⟨u, rfl, ru⟩ := rts1 (looks_rt S2 rs el)
        obtain ⟨b, zs, rfl, hb, rb⟩ := ru.lst
        have hi : i < st2.length := (List.getElem?_eq_some_iff.mp ex).1
        refine ⟨_, _, us, zs, rfl, rfl, h1, hb, by rw [h2.len, rb.len]; have := line_lim; omega, ?_⟩
        exact wr_end f2 S2 hi h1 (h2.app rb) .non q
      · exact q.elim
    · exact q.elim
  · exact q.elim
/-! ### x[i] = e -/
def dPut (es : List (PyData × PyData)) (k : Key) (c d : PyData) : List (PyData × PyData) := if hasKey es k = true then es.map (fun e => if keyD e.1 = some k then (e.1, d) else e) else es ++ [(c, d)]
theorem rpk_map {Z : Addr → Prop} {H : Hp} {v : V} {d : PyData} {q : Key} (r : Rp X.K H Z v d) : ∀ {ks : List (Key × V)} {es : List (PyData × PyData)}, RpK X.K H Z ks es →
    RpK X.K H Z (ks.map fun kv => if kv.1 = q then (kv.1, v) else kv) (es.map fun e => if keyD e.1 = some q then (e.1, d) else e)
  | [], _, h => by cases h; exact .nil
  | (k0, v0) :: ks, _, h => by
    cases h with
    | cons h0 h1 h2 =>
      simp only [List.map_cons]
      by_cases e : k0 = q
      · rw [if_pos e, if_pos (by rw [h0, e])]
        exact .cons h0 r (rpk_map r h2)
      · rw [if_neg e, if_neg (by rw [h0]; exact fun z => e (Option.some.inj z))]
        exact .cons h0 h1 (rpk_map r h2)
theorem rpk_app {Z : Addr → Prop} {H : Hp} {v : V} {c d : PyData} {q : Key} (e : keyD c = some q) (r : Rp X.K H Z v d) : ∀ {ks : List (Key × V)} {es : List (PyData × PyData)}, RpK X.K H Z ks es → RpK X.K H Z (ks ++ [(q, v)]) (es ++ [(c, d)])
  | [], _, h => by cases h; exact .cons e r .nil
  | (k0, v0) :: ks, _, h => by cases h with | cons h0 h1 h2 => exact .cons h0 h1 (rpk_app e r h2)
theorem rpk_put {Z : Addr → Prop} {H : Hp} {v : V} {c d : PyData} {q : Key} {ks : List (Key × V)} {es : List (PyData × PyData)} (e : keyD c = some q) (r : Rp X.K H Z v d) (h : RpK X.K H Z ks es) : RpK X.K H Z (L2.putK ks q v) (dPut es q c d) := by
  unfold L2.putK dPut
  rw [valV_any, valV_has q h]
  split
  · exact rpk_map r h
  · exact rpk_app e r h
theorem rt_key {Z : Addr → Prop} {H : Hp} {v : V} {c : PyData} {q : Key} (h : RT X.K H Z v c) (e : keyD c = some q) : v = kV q := by
  unfold keyD at e
  split at e
  · cases e; exact h.int
  · cases e; exact h.str
  · cases e
def dPutT (es : List (PyData × PyData)) (k : List Key) (c d : PyData) : List (PyData × PyData) := if (dLookT es k).isSome = true then es.map (fun e => if tkD e.1 = some k then (e.1, d) else e) else es ++ [(c, d)]
theorem rpt_map {Z : Addr → Prop} {H : Hp} {v : V} {d : PyData} {q : List Key} (r : Rp X.K H Z v d) : ∀ {ks : List (List Key × V)} {es : List (PyData × PyData)}, RpT X.K H Z ks es →
    RpT X.K H Z (ks.map fun kv => if kv.1 = q then (kv.1, v) else kv) (es.map fun e => if tkD e.1 = some q then (e.1, d) else e)
  | [], _, h => by cases h; exact .nil
  | (k0, v0) :: ks, _, h => by
    cases h with
    | cons h0 h1 h2 =>
      simp only [List.map_cons]
      by_cases e : k0 = q
      · rw [if_pos e, if_pos (by rw [h0, e])]
        exact .cons h0 r (rpt_map r h2)
      · rw [if_neg e, if_neg (by rw [h0]; exact fun z => e (Option.some.inj z))]
        exact .cons h0 h1 (rpt_map r h2)
theorem rpt_app {Z : Addr → Prop} {H : Hp} {v : V} {c d : PyData} {q : List Key} (e : tkD c = some q) (r : Rp X.K H Z v d) : ∀ {ks : List (List Key × V)} {es : List (PyData × PyData)}, RpT X.K H Z ks es → RpT X.K H Z (ks ++ [(q, v)]) (es ++ [(c, d)])
  | [], _, h => by cases h; exact .cons e r .nil
  | (k0, v0) :: ks, _, h => by cases h with | cons h0 h1 h2 => exact .cons h0 h1 (rpt_app e r h2)
theorem rpt_put {Z : Addr → Prop} {H : Hp} {v : V} {c d : PyData} {q : List Key} {ks : List (List Key × V)} {es : List (PyData × PyData)} (e : tkD c = some q) (r : Rp X.K H Z v d) (h : RpT X.K H Z ks es) : RpT X.K H Z (L2.putK ks q v) (dPutT es q c d) := by
  unfold L2.putK dPutT
  rw [valV_any, valV_hasT q h]
  split
  · exact rpt_map r h
  · exact rpt_app e r h
/-- a key's tuple that the top has not written -/
theorem rt_tkey {Z : Addr → Prop} {H : Hp} {v : V} {c : PyData} {q : List Key} (h : RT X.K H Z v c) (e : tkD c = some q) (hw : c ∉ Wtp.W) : ∃ b, v = .ref b ∧ H b = some (.tup (q.map kV)) := by
  cases c with
  | tuple ds =>
    obtain ⟨b, vs, rfl, h1, h2⟩ := h.tupT
    obtain ⟨b2, e2, h3⟩ := tkD_v h e
    cases e2
    rcases h1 with h1 | h1
    · refine ⟨b, rfl, ?_⟩
      have : ∀ {vs : List V} {ds : List PyData} {k : List Key}, RpA X.K H Z vs ds → keysD ds = some k → vs = k.map kV := by
        intro vs ds
        induction ds generalizing vs with
        | nil => intro k r e; cases e; cases r; rfl
        | cons d ds ih =>
          intro k r e
          unfold keysD at e
          split at e
          · rename_i k0 ks e1 e2
            cases e
            cases r with
            | cons r1 r2 => rw [List.map_cons, ih r2 e2, keyD_v (Z := Z) (.inl r1) e1]
          · cases e
      rw [this h2 (show keysD ds = some q from e)] at h1
      exact h1
    · exact absurd h1.2 hw
  | _ => cases e
open Classical in
noncomputable def setW (w j : Wv) (y : PyData) (st : Sto) : Option Sto := match w with
  | .r n => match st[n]?, look st j with
    | some (.lst xs), some (.int t) => (ixN xs.length t).map fun q => st.set n (.lst (xs.set q y))
    | some (.dct es), some c => match keyD c with
      | some q => if es.length < 1000000 then some (st.set n (.dct (dPut es q c y))) else none
      | none => none
    | some (.dtt es), some c => match tkD c with
      | some q => if es.length < 1000000 ∧ c ∉ Wtp.W then some (st.set n (.dtt (dPutT es q c y))) else none
      | none => none
    | _, _ => none
  | _ => none
noncomputable def sIx (co ci ce : En → Sto → Rs Wv) : En → Sto → SR := fun env st => (ce env st).sb fun x st1 => (co env st1).sb fun w st2 => (ci env st2).sb fun j st3 => match x with
  | .d y => match setW w j y st3 with
    | some st4 => .nx env st4
    | none => .no
  | _ => .no
def rSetB : TSet := fun o i v H Q => rSetL o i v H Q ∨ rSetD o i v H Q
theorem set_both (hu : X.A.units + 1 < cLine) : PSet X rSetB := by
  intro pins s σ H o i v ov iv u Q I ro ri rv h
  rcases h with h | h
  · exact set_list pins s σ H o i v ov iv u Q I ro ri rv h
  · exact set_dict hu pins s σ H o i v ov iv u Q I ro ri rv h
theorem setW_ok {D : Ends} {w j : Wv} {y : PyData} {st0 st4 : Sto} {ov iv v : V} {R : Hp → Prop} (S : Sim X.K H m st) (rw' : RW X.K H m st.length ov w) (rj : RW X.K H m st.length iv j) (ry : Rp X.K H (Off m st.length) v y) (e : setW w j y st = some st4)
    (q : ∀ H', Fol m st.length H m st4.length H' → Sim X.K H' m st4 → R H') : rSetB ov iv v H R := by
  unfold setW at e
  split at e
  · rename_i n
    split at e
    · rename_i xs t e1 e2
      have hi : n < st.length := (List.getElem?_eq_some_iff.mp e1).1
      obtain ⟨us, h1, h2⟩ := S.ob n _ e1
      cases e3 : ixN xs.length t with
      | none => rw [e3] at e; cases e
      | some z =>
        rw [e3] at e
        cases e
        have f2 : Fol m st.length H m st.length (upd H (m.ix n) (.lst (us.set z v))) := .wr hi h1 (.inl ⟨_, rfl⟩)
        have hl : (st.set n (Ob.lst (xs.set z y))).length = st.length := List.length_set
        refine .inl ⟨m.ix n, us, t, z, rw'.2, (look_rt S rj e2).int, h1, by rw [h2.len]; exact e3, ?_⟩
        exact q _ (by rw [hl]; exact f2) (S.wr hi h1 (.inl ⟨_, rfl⟩) ⟨_, upd_same, (RpA.set ry z h2).mv f2.kp⟩)
    · rename_i es c e1 e2
      have hi : n < st.length := (List.getElem?_eq_some_iff.mp e1).1
      obtain ⟨ks, h1, h2⟩ := S.ob n _ e1
      split at e
      · rename_i z ez
        split at e
        · rename_i hlt
          cases e
          have f2 : Fol m st.length H m st.length (upd H (m.ix n) (.dK (L2.putK ks z v))) := .wr hi h1 (.inr (.inl ⟨_, rfl⟩))
          have hl : (st.set n (Ob.dct (dPut es z c y))).length = st.length := List.length_set
          refine .inr ⟨m.ix n, _, rw'.2, by rw [rt_key (look_rt S rj e2) ez]; exact .k h1 (by rw [h2.len]; have := line_lim; omega), ?_⟩
          exact q _ (by rw [hl]; exact f2) (S.wr hi h1 (.inr (.inl ⟨_, rfl⟩)) ⟨_, upd_same, RpK.kp f2.kp _ _ (rpk_put ez ry h2)⟩)
        · cases e
      · cases e
    · rename_i es c e1 e2
      have hi : n < st.length := (List.getElem?_eq_some_iff.mp e1).1
      obtain ⟨ks, h1, h2⟩ := S.ob n _ e1
      split at e
      · rename_i z ez
        split at e
        · rename_i hlt
          cases e
          have f2 : Fol m st.length H m st.length (upd H (m.ix n) (.dT (L2.putK ks z v))) := .wr hi h1 (.inr (.inr ⟨_, rfl⟩))
          have hl : (st.set n (Ob.dtt (dPutT es z c y))).length = st.length := List.length_set
          obtain ⟨b, rfl, hb⟩ := rt_tkey (look_rt S rj e2) ez hlt.2
          refine .inr ⟨m.ix n, _, rw'.2, .t h1 hb (by rw [h2.len]; have := line_lim; omega), ?_⟩
          exact q _ (by rw [hl]; exact f2) (S.wr hi h1 (.inr (.inr ⟨_, rfl⟩)) ⟨_, upd_same, RpT.kp f2.kp _ _ (rpt_put ez ry h2)⟩)
        · cases e
      · cases e
    · cases e
  · cases e
theorem ds_setix (c : Cxt M X B k) {oe ie : Expr} {ci : En → Sto → Rs Wv} {p2 : Pos} (ho : DE X oe co) (hi : DE X ie ci) (he : DE X e ce) (hs : swapsWithSole [.Subscript oe ie p2] e pos.line X.env = pure false := by rfl) (hw : swappedStores [.Subscript oe ie p2] e X.env = pure none := by rfl)
    (h1 : (assignEach [.Subscript oe ie p2] X.env).map (·.2) = [assign (.Subscript oe ie p2) X.env] := by rfl)
    (ha : ∀ v, assign (.Subscript oe ie p2) X.env v = (do
      let ov ← holding [v] (eval oe X.env)
      let iv ← holding [v, ov] (eval ie X.env)
      standAt p2
      holding [v, ov, iv] (setItem ov iv v)
      release [v, ov, iv] []) := by intro _; rfl) : DS X (.Assign [.Subscript oe ie p2] e pos) (sIx co ci ce) := by
  refine ⟨fun W tk => PS.imp (ps_asg (he.pe W tk) (pg_sub (ho.pe W tk) (hi.pe W tk) (set_both (room_eq c.roomH (show 1 ≤ 60 by decide))) ha) hs hw h1) fun D σ H ⟨m, env, st, S, R, hp⟩ => ?_⟩
  unfold sIx at hp
  rw [Rs.post_sb] at hp
  refine ⟨m, env, st, S, R, Rs.post_mono hp (fun x st1 q v H1 m1 f1 S1 r1 => ?_) fun _ _ h => h.x⟩
  rw [Rs.post_sb] at q
  refine ⟨m1, env, st1, S1, R.mv f1, Rs.post_mono q (fun w st2 q ov H2 m2 f2 S2 r2 => ?_) fun _ _ h => (okXs.tr f1 h).x⟩
  rw [Rs.post_sb] at q
  refine ⟨m2, env, st2, S2, (R.mv f1).mv f2, Rs.post_mono q (fun j st3 q iv H3 m3 f3 S3 r3 => ?_) fun _ _ h => (okXs.tr (f1.trans f2) h).x⟩
  split at q
  · split at q
    · rename_i y st4 e4
      exact setW_ok (D := D) (st0 := st) S3 (r2.mv f3) r3 ((r1.mv f2).mv f3) e4 fun H' f4 S4 => q σ H' m3 (((f1.trans f2).trans f3).trans f4) S4 ((((R.mv f1).mv f2).mv f3).mv f4)
    · exact q.elim
  · exact q.elim
/-- x[a, b] = e: the key is a new tuple -/
def setWT (w : Wv) (c y : PyData) (st : Sto) : Option Sto := match w with
  | .r n => match st[n]? with
    | some (.dtt es) => match tkD c with
      | some q => if es.length < 1000000 then some (st.set n (.dtt (dPutT es q c y))) else none
      | none => none
    | _ => none
  | _ => none
def sIxT (co : En → Sto → Rs Wv) (cs : En → Sto → Rs (List Wv)) (ce : En → Sto → Rs Wv) : En → Sto → SR := fun env st => (ce env st).sb fun x st1 => (co env st1).sb fun w st2 => (cs env st2).sb fun js st3 => match x with
  | .d y => match allD js with
    | some ds => if ds.length ≤ 1000000 then (match setWT w (.tuple ds) y st3 with
      | some st4 => .nx env st4
      | none => .no) else .no
    | none => .no
  | _ => .no
end
end
section
variable [Wtp] [Tbl]
/-! ## max, min of two ints; t[::-1]; index in a written tuple -/
def max2F : List PyData → Option PyData
  | [.int i, .int j] => some (.int (if j > i then j else i))
  | _ => none
def min2F : List PyData → Option PyData
  | [.int i, .int j] => some (.int (if j < i then j else i))
  | _ => none
section
variable {X : Cx}
theorem c_max2 (hc : X.calm = true) : CallR X (.builtin "max") (rN X.K max2F) := by
  intro pins s σ H xs us Q I r ⟨Z, ds, e, hz, hd, hf, ho⟩
  unfold max2F at hf
  split at hf
  · cases hf
    obtain ⟨v, w, rfl, h1, h2⟩ := rts2 hd
    cases h1.int
    cases h2.int
    exact call_max2 hc pins s σ H _ us Q I r ⟨_, _, rfl, rout_here ho (.int _)⟩
  · cases hf
theorem c_min2 (hc : X.calm = true) : CallR X (.builtin "min") (rN X.K min2F) := by
  intro pins s σ H xs us Q I r ⟨Z, ds, e, hz, hd, hf, ho⟩
  unfold min2F at hf
  split at hf
  · cases hf
    obtain ⟨v, w, rfl, h1, h2⟩ := rts2 hd
    cases h1.int
    cases h2.int
    exact call_min2 hc pins s σ H _ us Q I r ⟨_, _, rfl, rout_here ho (.int _)⟩
  · cases hf
end
def revD : PyData → Option PyData
  | .list xs => some (.list xs.reverse)
  | .tuple xs => some (.tuple xs.reverse)
  | _ => none
theorem filterMap_all {α β : Type} {f : α → Option β} {g : α → β} : ∀ {l : List α}, (∀ x ∈ l, f x = some (g x)) → l.filterMap f = l.map g
  | [], _ => rfl
  | x :: l, h => by rw [List.filterMap_cons, h x (by simp), List.map_cons, filterMap_all fun y hy => h y (by simp [hy])]
theorem picks_rev (xs : Array Value) : ((List.range xs.size).filterMap fun (k : Nat) => xs[(((xs.size : Int) - 1) + (k : Int) * (-1)).toNat]?) = xs.toList.reverse := by
  rw [filterMap_all (g := fun k => xs.toList.reverse.getD k .none) fun k hk => ?_]
  · refine List.ext_getElem? fun i => ?_
    rw [List.getElem?_map]
    by_cases h : i < xs.size
    · have h2 : i < xs.toList.reverse.length := by simpa using h
      rw [List.getElem?_range h, Option.map_some, List.getD_eq_getElem?_getD, List.getElem?_eq_getElem h2]
      rfl
    · rw [List.getElem?_eq_none (show (List.range xs.size).length ≤ i by simpa using h), List.getElem?_eq_none (by simpa using h)]
      rfl
  · have hk : k < xs.size := List.mem_range.mp hk
    have e2 : (((xs.size : Int) - 1) + (k : Int) * (-1)).toNat = xs.size - 1 - k := by omega
    rw [e2, List.getD_eq_getElem?_getD, List.getElem?_reverse (by simpa using hk), Array.length_toList, Array.getElem?_toList, Array.getElem?_eq_getElem (show xs.size - 1 - k < xs.size by omega)]
    rfl
section
variable {prog : Program} {w : World} {A : Around} {E : Value → Shared → Prop} {s : Shared}
theorem applied_down {sl : Addr} {vs : Value} {n : Nat} {Q : Int × Int × Nat → Shared → Prop} (hs : s.heap.IsSliceOf sl .none .none vs) (ps : IsPart vs (some (-1))) (h : Q ((n : Int) - 1, -1, n) s) : wpAny (model prog w) A (Builtin.Slice.sliceApplied (.ref sl) (pure (n : Int))) Q E s := by
  obtain ⟨ob, hob, _, hd⟩ := id hs
  unfold Builtin.Slice.sliceApplied Builtin.Slice.sliceFields
  refine wpAny_bind (wpAny_bind (wpAny_field hob hd (x := .none) rfl (wpAny_bind (wpAny_field hob hd (x := .none) rfl (wpAny_bind (wpAny_field hob hd (x := vs) rfl (wpAny_pure ?_)))))))
  refine wpAny_bind (HT.slicePart_ ps ?_)
  show wpAny _ _ (if ((-1 : Int) == 0) = true then _ else _) _ _ s
  rw [if_neg (by decide)]
  refine wpAny_bind (slicePart_none (wpAny_bind (slicePart_none (wpAny_bind (wpAny_pure ?_)))))
  have ea : Builtin.Slice.sliceAdjust none none (-1) (n : Int) = ((n : Int) - 1, -1) := rfl
  have ep : Builtin.Slice.slicePlaces ((n : Int) - 1) (-1) (-1) = n := by
    unfold Builtin.Slice.slicePlaces
    rw [if_neg (by decide)]
    split
    · have : ((n : Int) - 1 - -1 - 1) / -(-1) + 1 = n := by
        rw [Int.neg_neg, Int.ediv_one]; omega
      rw [this]; rfl
    · omega
  show wpAny _ _ (match Builtin.Slice.sliceAdjust none none (-1) (n : Int) with | (lo, hi) => pure (lo, (-1 : Int), Builtin.Slice.slicePlaces lo hi (-1))) _ _ s
  rw [ea]
  show wpAny _ _ (pure ((n : Int) - 1, (-1 : Int), Builtin.Slice.slicePlaces ((n : Int) - 1) (-1) (-1))) _ _ s
  rw [ep]
  exact wpAny_pure h
theorem getitem_down {t sl : Addr} {items : Array Value} {vs : Value} {Q : Value → Shared → Prop} (ht : IsTup s.heap t items) (hs : s.heap.IsSliceOf sl .none .none vs) (ps : IsPart vs (some (-1))) (hz : items.size ≤ sizeLine)
    (h : Q (.ref s.heap.objs.size) { s with heap := s.heap.push { cls := .type "tuple", data := .seq items.toList.reverse.toArray } }) : wpAny (model prog w) A (getItem (.ref t) (.ref sl)) Q E s := by
  obtain ⟨ob, hob, hcs, _⟩ := id hs
  have hT : s.TypeIs (.ref sl) "slice" := ⟨ob, hob, hcs⟩
  unfold getItem
  try with_reducible refine wpAny_holding ?_
  first | refine wpAny_bind (wpAny_pure ?_) | skip
  refine wpAny_bind (wpAny_sequenceKey ht.typeIs (by decide) ?_)
  refine wpAny_bind (wpAny_callSpecial?_slot (name := Str.ofString "__getitem__") ht.typeIs PyProof.Rows.slot_tuple_getitem (wpAny_call_entry PyProof.Rows.slot_tuple_getitem ht.typeIs entry_tuple_getitem ?_ (args_tuple_getitem _ _)))
  show wpAny _ _ (Builtin.Tuple.tupleItemsOf (.ref t) >>= _) _ _ s
  refine wpAny_bind (PyProof.Rows.tupleItemsOf_ ht (wpAny_bind (wpAny_typeOf hT ?_)))
  rw [if_pos (by decide)]
  refine wpAny_bind (applied_down hs ps ?_)
  have no : ¬ (((((items.size : Int) - 1) == 0 && (-1 : Int) == 1 && items.size == items.size)) = true) := by
    rw [show ((-1 : Int) == 1) = false from rfl]; simp
  show wpAny _ _ (if ((((items.size : Int) - 1) == 0 && (-1 : Int) == 1 && items.size == items.size)) = true then _ else _) _ _ s
  rw [if_neg no, picks_rev]
  have ok : sizeOk (.seq items.toList.reverse.toArray) := by
    show items.toList.reverse.toArray.size ≤ sizeLine
    simpa using hz
  first
    | exact wpAny_bind (m := Builtin.Tuple.tupleExact _) (wpAny_newObj_type (wpAny_pure ⟨_, rfl, wpAny_pure h⟩) ok)
    | exact wpAny_bind (m := Builtin.Tuple.tupleExact _) (wpAny_newObj_type (wpAny_bind (wpAny_pure (wpAny_pure ⟨_, rfl, wpAny_pure h⟩))) ok)
    | exact wpAny_bind (wpAny_bind (m := Builtin.Tuple.tupleExact _) (wpAny_newObj_type (wpAny_pure (wpAny_pure ⟨_, rfl, wpAny_pure h⟩)) ok))
    | exact wpAny_bind (wpAny_bind (m := Builtin.Tuple.tupleExact _) (wpAny_newObj_type (wpAny_pure ⟨_, rfl, wpAny_pure h⟩) ok))
end
section
variable {M : Md} {X : Cx} {B : Tb} {k : Nat} {σ : L2.St} {H : Hp} {W : WX} {c : En → Sto → Rs Wv}
def rRev (K : Frg) : V → Hp → VK → Prop := fun x H Q => ∃ a xs, x = .ref a ∧ ((LsX K H a xs ∧ ∀ p, H p = none → Q (.ref p) (upd H p (.lst xs.reverse))) ∨ (SqT K H a xs ∧ ∀ p, H p = none → Q (.ref p) (upd H p (.tup xs.reverse))))
theorem pe_rev {e : Expr} {te : TE} {j : Nat} {p1 p2 p3 pos : Pos} (he : PE X e te) : PE X (.Subscript e (.Slice none none (some (.UnaryOp .USub (.Constant (.int 1) j p1) p2)) p3) pos) (tUn (rRev X.K) te) := by
  refine ⟨fun pins s σ H Q I h => Subscript_ (thn (he.run pins s σ H _ I h) fun v s1 ⟨x, H1, I1, r1, a, xs, ex, q⟩ => ?_)⟩
  subst ex
  cases r1
  have down : PO X (some (.UnaryOp .USub (.Constant (.int 1) j p1) p2)) (tPart (tUn (rU fun i => .int (-i)) (tC (.int 1)))) := po_some (pe_un un_neg pe_int)
  refine wpAny_Slice (thn (po_none.run pins s1 σ H1 (fun o H2 => o = none ∧ H1 = H2) I1 ⟨rfl, rfl⟩) fun vl s2 ⟨l, H2, I2, pl, el, e2⟩ => ?_)
  subst el e2
  refine thn (po_none.run pins s2 σ H1 (fun o H3 => o = none ∧ H1 = H3) I2 ⟨rfl, rfl⟩) fun vu s3 ⟨u, H3, I3, pu, eu, e3⟩ => ?_
  subst eu e3
  refine thn (down.run pins s3 σ H1 (fun o H4 => o = some (-1) ∧ H1 = H4) I3 ⟨1, rfl, -1, rfl, rfl, rfl⟩) fun vs s4 ⟨o, H4, I4, ps, eo, e4⟩ => ?_
  subst eo e4
  have I5 : Inv X pins σ H1 { s4 with heap := s4.heap.push { cls := .type "slice", data := .fields #[vl, vu, vs] } } := I4.kept (t' := s4.toks) fun b ob q => Heap.get?_push_of_some _ q
  show wpAny (model X.prog X.w) X.A (subscriptTail e (.Slice none none (some (.UnaryOp .USub (.Constant (.int 1) j p1) p2)) p3) (.ref a) (.ref s4.heap.objs.size)) (EP X pins σ Q) X.xe { s4 with heap := s4.heap.push { cls := .type "slice", data := .fields #[vl, vu, vs] } }
  rcases q with ⟨hl, q⟩ | ⟨ht, q⟩
  · obtain ⟨its, r, pt, hz⟩ := I5.list hl.sq
    have hlen := r.length
    refine tail_any (ops := [.ref a, .ref s4.heap.objs.size]) pt.isList.typeIs (PySem.slot_list_getitem.lookup) ?_ (by with_unfolding_all rfl)
    refine wpAny_getItem_list_slice pt.isList (Heap.IsSliceOf.new _ vl vu vs) pl pu ps (by decide) ?_ (by rw [List.size_toArray]; omega)
    rw [PySem.W.krv_pick]
    exact ⟨.ref _, _, I5.laid (t' := s4.toks) (o := .lst xs.reverse) (fun b ob q => Heap.get?_push_of_some _ q) (Nat.le_refl _) ⟨by rw [List.length_reverse]; exact hz, _, 0, r.reverse, Heap.get?_push_size _ rfl⟩, rfl, q _ (I5.hok.fresh (Nat.le_refl _))⟩
  · obtain ⟨its, r, pt, hz⟩ := I5.tuple ht
    have hlen := r.length
    cases pl
    cases pu
    refine tail_any (ops := [.ref a, .ref s4.heap.objs.size]) pt.typeIs (PyProof.Rows.slot_tuple_getitem.lookup) ?_ (by with_unfolding_all rfl)
    refine getitem_down pt (Heap.IsSliceOf.new _ _ _ vs) ps (by rw [List.size_toArray]; omega) ?_
    exact ⟨.ref _, _, I5.laid (t' := s4.toks) (o := .tup xs.reverse) (fun b ob q => Heap.get?_push_of_some _ q) (Nat.le_refl _) ⟨by rw [List.length_reverse]; exact hz, _, r.reverse, ⟨_, Heap.get?_push_size _ rfl, rfl, _, rfl⟩⟩, rfl, q _ (I5.hok.fresh (Nat.le_refl _))⟩
theorem de_rev {e : Expr} {j : Nat} {p1 p2 p3 pos : Pos} (he : DE X e c) : DE X (.Subscript e (.Slice none none (some (.UnaryOp .USub (.Constant (.int 1) j p1) p2)) p3) pos) (eOp1 revD c) := by
  refine ⟨fun W tk => PE.imp (pe_rev (he.pe W tk)) fun σ H Q h => ?_⟩
  obtain ⟨m, env, st, S, R, hp⟩ := te_one revD h
  refine ⟨m, env, st, S, R, Rs.post_mono hp (fun w st1 q v H1 m1 f1 S1 r1 => ?_) fun _ _ q => q⟩
  obtain ⟨Z, d, r, hz, hd, hf, ho⟩ := q v H1 m1 f1 S1 r1
  unfold revD at hf
  split at hf
  · cases hf
    obtain ⟨a, vs, rfl, h1, h2⟩ := hd.lst
    exact ⟨a, vs, rfl, .inl ⟨h1, rout_lst hz ho h2.rev⟩⟩
  · cases hf
    obtain ⟨a, vs, rfl, h1, h2⟩ := hd.tup
    exact ⟨a, vs, rfl, .inr ⟨h1, rout_tup ho h2.rev⟩⟩
  · cases hf
/-! ### x.index(e), x a written tuple of texts -/
def idxS (ys : List Str) (z : Str) : Option Nat := ys.findIdx? fun y => decide (y = z)
def eGix (ys : List Str) (cs : En → Sto → Rs (List Wv)) : En → Sto → Rs Wv := fun env st => (cs env st).bind fun ws st1 => match ws with
  | [.d (.str z)] => match idxS ys z with
    | some i => .ok (.d (.int (i : Nat))) st1
    | none => .no
  | _ => .no
theorem de_gindex {x : Str} {p : Addr} {ys : List Str} {cs : En → Sto → Rs (List Wv)} {e : Expr} {p1 apos pos : Pos} (cx : Cxt M X B k) (j : Nat) (hg : B.gs[j]? = some x) (hm : M.mg x = some (.ref p)) (hq : ∀ H, SqT M.K H p (ys.map V.str))
    (ht : ∃ o, M.K.lookup p = some o ∧ o.cls = .type "tuple" ∧ o.dict = none) (ha : DA X [e] cs) (hd : (x == ("__debug__" : Str)) = false := by decide) (hbase : attributeBase (.Name x p1) "index" X.env (eval (.Name x p1) X.env) = eval (.Name x p1) X.env := by rfl)
    (hfew : ((backTo pos (starEach [e] X.env)).all (fun x => !x.1) && (backToKw pos (keywordEach [] X.env)).all (fun x => x.1.isSome)
      && decide ([e].length + ([] : List Keyword).length + (if ([] : List Keyword).isEmpty then 0 else 1) < 30)) = true := by rfl)
    (hline : (apos.endLine == pos.line) = true := by rfl) (hs : starEach [e] X.env = (false, eval e X.env) :: starEach [] X.env := by rfl) : DE X (.Call (.Attribute (.Name x p1) "index" apos) [e] [] pos) (eGix ys cs) := by
  refine ⟨fun W tk => PE.imp (pe_bm PySem.F.plainAttrs_tuple PySem.F.slot_tuple_index PySem.F.type_tuple_index mt_tup_index (pe_glob (v := .ref p) (cx.gl j x hg) (by rw [cx.mg]; exact hm) rfl hd) (ha.pa W tk) hbase hfew hline hs rfl) fun σ H Q ⟨m, env, st, S, R, hp⟩ => ?_⟩
  refine ⟨.inr (.inl ⟨rfl, by rw [cx.hK]; exact ht⟩), ?_⟩
  unfold eGix at hp
  rw [Rs.post_bind] at hp
  refine ⟨m, env, st, S, R, Rs.post_mono hp (fun ws st1 q vs H1 m1 f1 S1 r1 => ?_) fun _ _ q => q⟩
  split at q
  · rename_i z
    split at q
    · rename_i i ei
      obtain ⟨v, rfl, r⟩ := rws1 r1
      cases r
      unfold idxS at ei
      rw [List.findIdx?_eq_some_iff_getElem] at ei
      obtain ⟨hi, h1, h2⟩ := ei
      refine ⟨p, ys, z, i, rfl, rfl, by rw [cx.hK]; exact hq _, by rw [List.getElem?_eq_getElem hi]; simpa using h1, fun n hn e => ?_, q _ H1 m1 f1 S1 (.int _)⟩
      have := h2 n hn
      have hn2 : n < ys.length := by omega
      rw [List.getElem?_eq_getElem hn2] at e
      simp at this e
      exact this e
    · exact q.elim
  · exact q.elim
end
end
section
variable [Wtp] [Tbl]
/-! ## the law's own call -/
theorem sysM_of {h : Heap} (x : h.NoSeer) : SysM h := by
  obtain ⟨mm, ⟨o, es, ep, e, d, _⟩, _⟩ := x.mods
  exact ⟨o, es, ep, e, d⟩
end
section
variable [Wtp] [Tbl]
/-! ## a, b = x, y: which stores -/
section
variable {M : Md} {X : Cx} {B : Tb} {k : Nat} {x y z : Str} {px py pz pt pt2 : Pos} {kt k2 : Nat} {a b e : Expr}
theorem isLoc (c : Cxt M X B k) {i : Nat} (h : i ∈ B.ps) (hx : B.N[i]? = some x) : X.env.kindOf x = some .local := c.pl i h x hx
theorem blkFn (c : Cxt M X B k) (hf : B.fn = true) : X.env.blockKind = .function := by unfold Env.blockKind; rw [c.kind hf]; rfl
def NoStar (e : Expr) : Prop := ∀ u p, e ≠ .Starred u p
theorem sw2 (c : Cxt M X B k) {i j : Nat} (hi : B.N[i]? = some x) (hj : B.N[j]? = some y) (pi : i ∈ B.ps) (pj : j ∈ B.ps) (hxy : [x, y].eraseDups.length = 2) (hf : B.fn = true) (hln : (py.line == px.line) = true)
    (ha : NoStar a) (hb : NoStar b) (hff : [a, b].all (foldedForSure 8) = false) (hca : [a, b].all (constantsAlone 8) = false) :
    swappedStores [.Tuple [.Name x px, .Name y py] kt pt] (.Tuple [a, b] k2 pt2) X.env = pure (some [x, y]) := by
  have h1 := isLoc c pi hi
  have h2 := isLoc c pj hj
  have h3 := blkFn c hf
  have hl : py.line = px.line := eq_of_beq hln
  unfold swappedStores
  simp [h1, h2, h3, hl, hff, hca, hxy, Expr.pos]
  rintro (h | h)
  · split at h
    · exact absurd rfl (ha _ _)
    · cases h
  · split at h
    · exact absurd rfl (hb _ _)
    · cases h
/-! ## the module's defs -/
def Has (M : Md) (g : Bool) (k : Nat) (x : Str) (ps : List Str) (mf : List Wv → Sto → Rs Wv) : Prop := ∃ f fd, M.mg x = some (.ref f) ∧ PySem.W.keepIn M.K (.ref f) = true ∧ Binds M.K fd ps [] ∧ Fnk M g k f fd ps mf
theorem Has.up {g : Bool} {ps : List Str} {mf : List Wv → Sto → Rs Wv} {j : Nat} (h : Has M g j x ps mf) (hj : j ≤ k) : Has M g k x ps mf := by
  obtain ⟨f, fd, h1, h2, h3, h4⟩ := h
  exact ⟨f, fd, h1, h2, h3, h4.mono hj⟩
theorem de_fn {g : Bool} {ps : List Str} {mf : List Wv → Sto → Rs Wv} {cs : En → Sto → Rs (List Wv)} {p pos : Pos} {es : List Expr} (c : Cxt M X B k) (F : Has M g k x ps mf) (j : Nat) (hg : B.gs[j]? = some x) (ha : DA X (e :: es) cs) (hgd : g = true → B.gd = true := by first | exact fun _ => rfl | exact fun z => Bool.noConfusion z) (hdb : (x == ("__debug__" : Str)) = false := by decide)
    (he : starEach (e :: es) X.env = (false, eval e X.env) :: starEach es X.env := by rfl) (hpl : (backTo pos (starEach es X.env)).any (·.1) = false := by rfl) : DE X (.Call (.Name x p) (e :: es) [] pos) (eCall mf cs) := by
  obtain ⟨f, fd, h1, h2, h3, h4⟩ := F
  exact de_call c h4 j hg h1 h2 h3 ha hgd hdb he hpl
/-- a def as the top has written it -/
structure TopFn (M : Md) (x : Str) (sf : Stmt) (ps : List Str) : Prop where
  at' : ∃ (f : Addr) (od an : Option Addr) (sl : Array (Option Value)) (oc kV dc pm cd ct : Value), M.mg x = some (.ref f) ∧ M.K.lookup f = some ⟨oc, od, .func (PySem.W.fnOf x x (defArgs sf) (defBody sf) (defScope sf) .none kV dc pm an cd ct), sl⟩ ∧
    PySem.W.codeIn M.K cd x = true ∧ PySem.W.keepIn M.K (.ref f) = true ∧ Binds M.K (PySem.W.fnOf x x (defArgs sf) (defBody sf) (defScope sf) .none kV dc pm an cd ct) ps []
/-- a def of the module that makes lambdas -/
structure LamT (M : Md) (x q : Str) : Prop where
  nm : (x ++ ".<locals>.") ++ "<lambda>" = q
  at' : ∃ c P : Addr, (∀ (f : Addr) (oc : Value) (od : Option Addr) (fd : FuncData) (sl : Array (Option Value)), M.mg x = some (.ref f) → M.K.lookup f = some ⟨oc, od, .func fd, sl⟩ → fd.code = .ref c) ∧ (P, q) ∈ Tbl.T ∧ (∀ p ∈ Tbl.T, p.1 = P → p.2 = q) ∧ LamX.TabB M.base M.mg c P
theorem LamT.to {q : Str} {f : Addr} {oc : Value} {od : Option Addr} {fd : FuncData} {sl : Array (Option Value)} (T : LamT M x q) (h1 : M.mg x = some (.ref f)) (h2 : M.K.lookup f = some ⟨oc, od, .func fd, sl⟩) : (x ++ ".<locals>.") ++ "<lambda>" = q ∧ LamC M.mg M.base q fd.code := by
  obtain ⟨c, P, e1, e2, e3, e4⟩ := T.at'
  exact ⟨T.nm, ⟨c, P, e1 f oc od fd sl h1 h2, e2, e3, e4⟩⟩
theorem has_of {sf : Stmt} {ps : List Str} {cb : En → Sto → SR} {np nN : Nat} (T : TopFn M x sf ps) (SC : FnScope B.N ps (defScope sf)) (hT : fnT B (defScope sf) = true) (hnp : ps.length = np) (hnN : B.N.length = nN)
    (hb : ∀ X : Cx, Cxt M X B k → DB X (defBody sf) cb) (hlam : ∀ q, B.lq = some q → LamT M x q := by intro _ h; exact nomatch (show (none : Option Str) = some _ from h)) : Has M B.gd (k + 1) x ps (mkF np nN cb) := by
  obtain ⟨f, od, an, sl, oc, kV, dc, pm, cd, ct, h1, h2, h3, h4, h5⟩ := T.at'
  exact ⟨f, _, h1, h4, h5, fnk_of h2 h3 SC hT hnp hnN hb (fun q hq => (hlam q hq).to h1 h2)⟩
/-! ## the module's constants -/
def Gw (M : Md) (x : Str) (y : PyData) : Prop := ∃ u v, M.mg x = some u ∧ RelV v u ∧ ∀ H Z, Rp M.K H Z v y
theorem de_gw {y : PyData} {p : Pos} (c : Cxt M X B k) (j : Nat) (h : B.gs[j]? = some x) (g : Gw M x y) (hd : (x == ("__debug__" : Str)) = false := by decide) : DE X (.Name x p) (eK y) := by
  obtain ⟨u, v, h1, h2, h3⟩ := g
  exact de_glob c j h h1 h2 h3 hd
def Gix (M : Md) (x : Str) (ys : List Str) : Prop := ∃ p, M.mg x = some (.ref p) ∧ (∀ H, SqT M.K H p (ys.map V.str)) ∧ ∃ o, M.K.lookup p = some o ∧ o.cls = .type "tuple" ∧ o.dict = none
theorem de_gix {ys : List Str} {cs : En → Sto → Rs (List Wv)} {p1 apos pos : Pos} (c : Cxt M X B k) (j : Nat) (h : B.gs[j]? = some x) (g : Gix M x ys) (ha : DA X [e] cs)
    (hfew : ((backTo pos (starEach [e] X.env)).all (fun x => !x.1) && (backToKw pos (keywordEach [] X.env)).all (fun x => x.1.isSome)
      && decide ([e].length + ([] : List Keyword).length + (if ([] : List Keyword).isEmpty then 0 else 1) < 30)) = true := by rfl)
    (hline : (apos.endLine == pos.line) = true := by rfl) (hs : starEach [e] X.env = (false, eval e X.env) :: starEach [] X.env := by rfl) (hd : (x == ("__debug__" : Str)) = false := by decide)
    (hbase : attributeBase (.Name x p1) "index" X.env (eval (.Name x p1) X.env) = eval (.Name x p1) X.env := by rfl) : DE X (.Call (.Attribute (.Name x p1) "index" apos) [e] [] pos) (eGix ys cs) := by
  obtain ⟨p, h1, h2, h3⟩ := g
  exact de_gindex c j h h1 h2 h3 ha hd hbase hfew hline hs
theorem top_mk {h : Heap} {sf : Stmt} {ps : List Str} {f : Addr} {od an : Option Addr} {sl : Array (Option Value)} {oc kV dc pm cd ct : Value} (inK : M.K.In h) (G : h.Ns mainGlobals M.mg) (a : PySem.W.nsIn M.K mainGlobals x = some (some (.ref f)))
    (l : M.K.lookup f = some ⟨oc, od, .func (PySem.W.fnOf x x (defArgs sf) (defBody sf) (defScope sf) .none kV dc pm an cd ct), sl⟩) (cc : PySem.W.codeIn M.K cd x = true) (kk : PySem.W.keepIn M.K (.ref f) = true)
    (hb : ∀ us : List Value, us.length = ps.length → bindArgs (PySem.W.fnOf x x (defArgs sf) (defBody sf) (defScope sf) .none kV dc pm an cd ct) ⟨us, []⟩ = pure (ps.zip us)) : TopFn M x sf ps :=
  ⟨f, od, an, sl, oc, kV, dc, pm, cd, ct, PySem.W.mg_of inK G a, l, cc, kk, .all hb⟩
/-- a value that the top has written -/
def Wr (K : Frg) (u : Value) (d : PyData) : Prop := ∃ v, RelV v u ∧ ∀ H Z, Rp K H Z v d
def Wrs (K : Frg) (us : List Value) (ds : List PyData) : Prop := ∃ vs, Vals vs us ∧ ∀ H Z, RpA K H Z vs ds
section
variable {K : Frg}
theorem wr_int {i : Int} {t : Tok} : Wr K (.int i t) (.int i) := ⟨.int i, ⟨t, rfl⟩, fun _ _ => .int i⟩
theorem wr_str {z : Str} {t : Tok} : Wr K (.str z t) (.str z) := ⟨.str z, ⟨t, rfl⟩, fun _ _ => .str z⟩
theorem wrs_nil : Wrs K [] [] := ⟨[], .nil, fun _ _ => .nil⟩
theorem wrs_cons {u : Value} {us : List Value} {d : PyData} {ds : List PyData} (h : Wr K u d) (r : Wrs K us ds) : Wrs K (u :: us) (d :: ds) := by
  obtain ⟨v, h1, h2⟩ := h
  obtain ⟨vs, h3, h4⟩ := r
  exact ⟨v :: vs, .cons h1 h3, fun H Z => .cons (h2 H Z) (h4 H Z)⟩
theorem wr_tup {p : Addr} {us : List Value} {ds : List PyData} {n : Nat} {sl : Array (Option Value)} (l : K.lookup p = some ⟨.type "tuple", none, .seq us.toArray n, sl⟩) (hz : us.length ≤ 1000) (r : Wrs K us ds) (hw : PyData.tuple ds ∈ Wtp.W) : Wr K (.ref p) (.tuple ds) := by
  obtain ⟨vs, h1, h2⟩ := r
  exact ⟨.ref p, rfl, fun H Z => .tup (.inr ⟨.inr ⟨_, us.toArray, n, l, rfl, rfl, by have := line_lim; simp; omega, by simpa using h1⟩, hw⟩) (h2 H Z)⟩
end
theorem gw_of {h : Heap} {u : Value} {y : PyData} (inK : M.K.In h) (G : h.Ns mainGlobals M.mg) (a : PySem.W.nsIn M.K mainGlobals x = some (some u)) (w : Wr M.K u y) : Gw M x y := by
  obtain ⟨v, h1, h2⟩ := w
  exact ⟨u, v, PySem.W.mg_of inK G a, h1, h2⟩
theorem gix_of {h : Heap} {p : Addr} {us : List Value} {n : Nat} {sl : Array (Option Value)} {ys : List Str} (inK : M.K.In h) (G : h.Ns mainGlobals M.mg) (a : PySem.W.nsIn M.K mainGlobals x = some (some (.ref p))) (l : M.K.lookup p = some ⟨.type "tuple", none, .seq us.toArray n, sl⟩)
    (hz : us.length ≤ 1000) (hv : Vals (ys.map V.str) us) : Gix M x ys :=
  ⟨p, PySem.W.mg_of inK G a, fun H => .inr ⟨_, us.toArray, n, l, rfl, rfl, by have := line_lim; simp; omega, by simpa using hv⟩, _, l, rfl, rfl⟩
end
end
section
variable [Wtp] [Tbl]
/-! ## reading a def on data -/
section
variable {α β : Type} (env : En) (st : Sto)
@[simp] theorem x_var (i : Nat) : eVar i env st = match env[i]? with
  | some (some w) => .ok w st
  | _ => .no := rfl
@[simp] theorem x_k (x : PyData) : eK x env st = .ok (.d x) st := rfl
@[simp] theorem x_op2 (f : PyData → PyData → Option PyData) (a b : En → Sto → Rs Wv) : eOp2 f a b env st = (a env st).bind fun v st1 => (b env st1).bind fun w st2 => look1 v st2 fun d => look1 w st2 fun e => ret1 (f d e) st2 := rfl
@[simp] theorem x_op1 (f : PyData → Option PyData) (a : En → Sto → Rs Wv) : eOp1 f a env st = (a env st).bind fun v st1 => look1 v st1 fun d => ret1 (f d) st1 := rfl
@[simp] theorem x_nil : aNil env st = .ok [] st := rfl
@[simp] theorem x_cons (a : En → Sto → Rs Wv) (b : En → Sto → Rs (List Wv)) : aCons a b env st = (a env st).bind fun v st1 => (b env st1).bind fun r st2 => .ok (v :: r) st2 := rfl
end
def srcW (w : Wv) (st1 : Sto) : Rs Sc := match w with
  | .d (.str x) => .ok ⟨x.cps.toList.map sgnD, []⟩ st1
  | .d (.dict es) => .ok ⟨es.map (·.1), []⟩ st1
  | w => match seqW w st1 with
    | some sc => .ok sc st1
    | none => .no
def rg1W (ws : List Wv) (st1 : Sto) : Rs Sc := match ws with
  | [.d (.int j)] => if rgOk j then .ok ⟨rangeD 0 j.toNat, []⟩ st1 else .no
  | _ => .no
def rg2W (ws : List Wv) (st1 : Sto) : Rs Sc := match ws with
  | [.d (.int i), .d (.int j)] => if rgOk i && rgOk j then .ok ⟨rangeD i (j - i).toNat, []⟩ st1 else .no
  | _ => .no
def rgdW (ws : List Wv) (st1 : Sto) : Rs Sc := match ws with
  | [.d (.int i), .d (.int j), .d (.int (-1))] => if rgOk i && rgOk j then .ok ⟨downD i (i - j).toNat, []⟩ st1 else .no
  | _ => .no
def enumW (ws : List Wv) (st1 : Sto) : Rs Sc := match ws with
  | [u] => match seqW u st1 with
    | some a => .ok ⟨enumD a.xs, a.lv⟩ st1
    | _ => .no
  | _ => .no
def zip2W (ws : List Wv) (st1 : Sto) : Rs Sc := match ws with
  | [u, v] => match seqW u st1, seqW v st1 with
    | some a, some b => .ok ⟨List.zipWith pairD a.xs b.xs, a.lv ++ b.lv⟩ st1
    | _, _ => .no
  | _ => .no
def zip3W (ws : List Wv) (st1 : Sto) : Rs Sc := match ws with
  | [u, v, w] => match seqW u st1, seqW v st1, seqW w st1 with
    | some a, some b, some c => .ok ⟨zip3 a.xs b.xs c.xs, (a.lv ++ b.lv) ++ c.lv⟩ st1
    | _, _, _ => .no
  | _ => .no
def tupW (ws : List Wv) (st1 : Sto) : Rs Wv := match allD ws with
  | some ds => if ds.length ≤ 1000000 then .ok (.d (.tuple ds)) st1 else .no
  | none => .no
def lstW (ws : List Wv) (st1 : Sto) : Rs Wv := match allD ws with
  | some ds => if ds.length ≤ 1000000 then .ok (.d (.list ds)) st1 else .no
  | none => .no
def newW (ws : List Wv) (st1 : Sto) : Rs Wv := match allD ws with
  | some ds => if ds.length ≤ 1000000 then .ok (.r st1.length) (st1 ++ [.lst ds]) else .no
  | none => .no
def gixW (ys : List Str) (ws : List Wv) (st1 : Sto) : Rs Wv := match ws with
  | [.d (.str z)] => match idxS ys z with
    | some i => .ok (.d (.int (i : Nat))) st1
    | none => .no
  | _ => .no
@[simp] theorem x_opN (env : En) (st : Sto) (f : List PyData → Option PyData) (c : En → Sto → Rs (List Wv)) : eOpN f c env st = ((c env st).bind fun ws st1 => match looks ws st1 with | some ds => ret1 (f ds) st1 | none => .no) := rfl
@[simp] theorem x_tru (env : En) (st : Sto) (c : En → Sto → Rs Wv) : tTru c env st = ((c env st).bind tru) := rfl
@[simp] theorem x_and (env : En) (st : Sto) (a b : En → Sto → Rs Bool) : tAnd2 a b env st = ((a env st).bind fun x st1 => if x = true then b env st1 else .ok false st1) := rfl
@[simp] theorem x_or (env : En) (st : Sto) (a b : En → Sto → Rs Bool) : tOr2 a b env st = ((a env st).bind fun x st1 => if x = true then .ok true st1 else b env st1) := rfl
@[simp] theorem x_not (env : En) (st : Sto) (a : En → Sto → Rs Bool) : tNot1 a env st = ((a env st).bind fun x st1 => .ok (!x) st1) := rfl
@[simp] theorem x_eand (env : En) (st : Sto) (a b : En → Sto → Rs Wv) : eAnd2 a b env st = ((a env st).bind fun w st1 => (tru w st1).bind fun x st2 => if x = true then b env st2 else .ok w st2) := rfl
@[simp] theorem x_eor (env : En) (st : Sto) (a b : En → Sto → Rs Wv) : eOr2 a b env st = ((a env st).bind fun w st1 => (tru w st1).bind fun x st2 => if x = true then .ok w st2 else b env st2) := rfl
@[simp] theorem x_enot (env : En) (st : Sto) (a : En → Sto → Rs Wv) : eNot1 a env st = ((a env st).bind fun w st1 => (tru w st1).bind fun x st2 => .ok (.d (.bool (!x))) st2) := rfl
@[simp] theorem x_eif (env : En) (st : Sto) (t : En → Sto → Rs Bool) (a b : En → Sto → Rs Wv) : eIf t a b env st = ((t env st).bind fun x st1 => if x = true then a env st1 else b env st1) := rfl
@[simp] theorem x_bl (env : En) (st : Sto) (c : En → Sto → Rs Wv) : tBl c env st = ((c env st).bind fun w st1 => match w with | .d (.bool b) => .ok b st1 | _ => .no) := rfl
@[simp] theorem x_newd (env : En) (st : Sto)  : eNewD env st = (.ok (.r st.length) (st ++ [.dct []])) := rfl
def sixTW (env : En) (x w : Wv) (js : List Wv) (st3 : Sto) : SR := match x with
  | .d y => match allD js with
    | some ds => if ds.length ≤ 1000000 then (match setWT w (.tuple ds) y st3 with
      | some st4 => .nx env st4
      | none => .no) else .no
    | none => .no
  | _ => .no
@[simp] theorem x_sixt (env : En) (st : Sto) (co : En → Sto → Rs Wv) (cs : En → Sto → Rs (List Wv)) (ce : En → Sto → Rs Wv) : sIxT co cs ce env st = ((ce env st).sb fun x st1 => (co env st1).sb fun w st2 => (cs env st2).sb (sixTW env x w)) := rfl
@[simp] theorem x_newt (env : En) (st : Sto) : eNewT env st = (.ok (.r st.length) (st ++ [.dtt []])) := rfl
@[simp] theorem x_dic0 (env : En) (st : Sto)  : eDic0 env st = (.ok (.d (.dict [])) st) := rfl
@[simp] theorem x_slice (env : En) (st : Sto) (c : En → Sto → Rs Wv) (l h : En → Sto → Rs (Option Int)) : eSlice c l h env st = ((c env st).bind fun w st1 => (l env st1).bind fun i st2 => (h env st2).bind fun j st3 => look1 w st3 fun d => ret1 (slD i j d) st3) := rfl
@[simp] theorem x_pno (env : En) (st : Sto)  : pNo env st = (.ok none st) := rfl
@[simp] theorem x_psome (env : En) (st : Sto) (c : En → Sto → Rs Wv) : pSome c env st = ((c env st).bind fun w st1 => match w with | .d (.int i) => .ok (some i) st1 | _ => .no) := rfl
@[simp] theorem x_snil (env : En) (st : Sto)  : sNil env st = (.nx env st) := rfl
@[simp] theorem x_seq (env : En) (st : Sto) (a b : En → Sto → SR) : sSeq a b env st = ((a env st).seq b) := rfl
@[simp] theorem x_set (env : En) (st : Sto) (i : Nat) (c : En → Sto → Rs Wv) : sSet i c env st = ((c env st).sb fun w st1 => .nx (env.set i (some w)) st1) := rfl
@[simp] theorem x_ret (env : En) (st : Sto) (c : En → Sto → Rs Wv) : sRet c env st = ((c env st).sb fun w st1 => .rt (.w w) st1) := rfl
@[simp] theorem x_retf (env : En) (st : Sto) (c : En → Sto → Rs Wv) : sRetF c env st = ((c env st).sb fun w st1 => .rt (.f w) st1) := rfl
@[simp] theorem x_rett (env : En) (st : Sto) (c : En → Sto → Rs (List Wv)) : sRetT c env st = ((c env st).sb fun ws st1 => if ws.length ≤ 1000 then .rt (.ft ws) st1 else .no) := rfl
@[simp] theorem x_retn (env : En) (st : Sto)  : sRetN env st = (.rt (.w (.d .none)) st) := rfl
@[simp] theorem x_exp (env : En) (st : Sto) (c : En → Sto → Rs Wv) : sExp c env st = ((c env st).sb fun _ st1 => .nx env st1) := rfl
@[simp] theorem x_if (env : En) (st : Sto) (t : En → Sto → Rs Bool) (a b : En → Sto → SR) : sIf t a b env st = ((t env st).sb fun x st1 => if x = true then a env st1 else b env st1) := rfl
@[simp] theorem x_sno (env : En) (st : Sto)  : sNo env st = (.no) := rfl
@[simp] theorem x_asg (env : En) (st : Sto) (g : Wv → En → Option En) (c : En → Sto → Rs Wv) : sAsg g c env st = ((c env st).sb fun w st1 => match g w env with | some env' => .nx env' st1 | none => .no) := rfl
@[simp] theorem x_par2 (env : En) (st : Sto) (i j : Nat) (c : En → Sto → Rs (List Wv)) : sPar2 i j c env st = ((c env st).sb fun ws st1 => match ws with | [v, w] => .nx ((env.set i (some v)).set j (some w)) st1 | _ => .no) := rfl
@[simp] theorem x_par3 (env : En) (st : Sto) (i j l : Nat) (c : En → Sto → Rs (List Wv)) : sPar3 i j l c env st = ((c env st).sb fun ws st1 => match ws with | [u, v, w] => .nx (((env.set i (some u)).set j (some v)).set l (some w)) st1 | _ => .no) := rfl
@[simp] theorem x_for (env : En) (st : Sto) (ci : En → Sto → Rs Sc) (g : Wv → En → Option En) (b : En → Sto → SR) : sFor ci g b env st = ((ci env st).sb fun sc st1 => forL g b sc.lv sc.xs env st1) := rfl
@[simp] theorem x_clc (env : En) (st : Sto) (ci : En → Sto → Rs Sc) (g : Wv → En → Option En) (t : En → Sto → Rs Bool) (c : En → Sto → Rs Wv) (vs : List Nat) : cLc ci g t c vs env st = ((ci env st).bind fun sc st1 => if sc.xs.length ≤ 1000000 then lcL g t c sc.lv (wipeE env vs) sc.xs [] st1 else .no) := rfl
@[simp] theorem x_lc (env : En) (st : Sto) (ci : En → Sto → Rs Sc) (g : Wv → En → Option En) (t : En → Sto → Rs Bool) (c : En → Sto → Rs Wv) (vs : List Nat) : eLc ci g t c vs env st = ((cLc ci g t c vs env st).bind fun ys st2 => .ok (.d (.list ys)) st2) := rfl
@[simp] theorem x_lcn (env : En) (st : Sto) (ci : En → Sto → Rs Sc) (g : Wv → En → Option En) (t : En → Sto → Rs Bool) (c : En → Sto → Rs Wv) (vs : List Nat) : eLcN ci g t c vs env st = ((cLc ci g t c vs env st).bind fun ys st2 => .ok (.r st2.length) (st2 ++ [.lst ys])) := rfl
@[simp] theorem x_yes (env : En) (st : Sto)  : tYs env st = (.ok true st) := rfl
@[simp] theorem x_meth (env : En) (st : Sto) (g : Wv → List Wv → Sto → Rs Wv) (co : En → Sto → Rs Wv) (cs : En → Sto → Rs (List Wv)) : eM g co cs env st = ((co env st).bind fun w st1 => if isLst st1 w = true then (cs env st1).bind fun ws st2 => g w ws st2 else .no) := rfl
@[simp] theorem x_call (env : En) (st : Sto) (mf : List Wv → Sto → Rs Wv) (cs : En → Sto → Rs (List Wv)) : eCall mf cs env st = ((cs env st).bind mf) := rfl
@[simp] theorem x_seqs (env : En) (st : Sto) (c : En → Sto → Rs Wv) : cSeq c env st = ((c env st).bind srcW) := rfl
@[simp] theorem x_rg1 (env : En) (st : Sto) (c : En → Sto → Rs (List Wv)) : cRg1 c env st = ((c env st).bind rg1W) := rfl
@[simp] theorem x_rg2 (env : En) (st : Sto) (c : En → Sto → Rs (List Wv)) : cRg2 c env st = ((c env st).bind rg2W) := rfl
@[simp] theorem x_rgd (env : En) (st : Sto) (c : En → Sto → Rs (List Wv)) : cRgD c env st = ((c env st).bind rgdW) := rfl
@[simp] theorem x_enum (env : En) (st : Sto) (c : En → Sto → Rs (List Wv)) : cEnum c env st = ((c env st).bind enumW) := rfl
@[simp] theorem x_zip2 (env : En) (st : Sto) (c : En → Sto → Rs (List Wv)) : cZip2 c env st = ((c env st).bind zip2W) := rfl
@[simp] theorem x_zip3 (env : En) (st : Sto) (c : En → Sto → Rs (List Wv)) : cZip3 c env st = ((c env st).bind zip3W) := rfl
@[simp] theorem x_tup (env : En) (st : Sto) (c : En → Sto → Rs (List Wv)) : eTup c env st = ((c env st).bind tupW) := rfl
@[simp] theorem x_lst (env : En) (st : Sto) (c : En → Sto → Rs (List Wv)) : eLst c env st = ((c env st).bind lstW) := rfl
@[simp] theorem x_newl (env : En) (st : Sto) (c : En → Sto → Rs (List Wv)) : eNewL c env st = ((c env st).bind newW) := rfl
@[simp] theorem x_gix (env : En) (st : Sto) (ys : List Str) (c : En → Sto → Rs (List Wv)) : eGix ys c env st = ((c env st).bind (gixW ys)) := rfl
def chW (o : Option PyData) (k : Rs Wv) (st : Sto) : Rs Wv := match o with
  | some (.bool true) => k
  | some (.bool false) => .ok (.d (.bool false)) st
  | _ => .no
@[simp] theorem chW_b (b : Bool) (k : Rs Wv) (st : Sto) : chW (some (.bool b)) k st = if b = true then k else .ok (.d (.bool false)) st := by cases b <;> rfl
@[simp] theorem x_chain (env : En) (st : Sto) (f g : PyData → PyData → Option PyData) (a b c : En → Sto → Rs Wv) : eChain f g a b c env st = ((a env st).bind fun v st1 => (b env st1).bind fun w st2 => look1 v st2 fun d => look1 w st2 fun e => chW (f d e) ((c env st2).bind fun z st3 => look1 w st3 fun e' => look1 z st3 fun y => ret1 (g e' y) st3) st2) := rfl
@[simp] theorem if_a (p : Prop) [Decidable p] (x : Bool) (st : Sto) : (if p then Rs.ok (Wv.d (.bool x)) st else Rs.ok (Wv.d (.bool false)) st) = Rs.ok (Wv.d (.bool (decide p && x))) st := by by_cases h : p <;> simp [h]
@[simp] theorem if_o (p : Prop) [Decidable p] (x : Bool) (st : Sto) : (if p then Rs.ok (Wv.d (.bool true)) st else Rs.ok (Wv.d (.bool x)) st) = Rs.ok (Wv.d (.bool (decide p || x))) st := by by_cases h : p <;> simp [h]
@[simp] theorem if_c (p : Prop) [Decidable p] (x : Bool) (st : Sto) : (if p then Rs.ok (Wv.d (.bool false)) st else Rs.ok (Wv.d (.bool x)) st) = Rs.ok (Wv.d (.bool (!decide p && x))) st := by by_cases h : p <;> simp [h]
@[simp] theorem if_d (p : Prop) [Decidable p] (x : Bool) (st : Sto) : (if p then Rs.ok (Wv.d (.bool x)) st else Rs.ok (Wv.d (.bool true)) st) = Rs.ok (Wv.d (.bool (!decide p || x))) st := by by_cases h : p <;> simp [h]
@[simp] theorem if_ta (p : Prop) [Decidable p] (x : Bool) (st : Sto) : (if p then Rs.ok x st else Rs.ok false st) = Rs.ok (decide p && x) st := by by_cases h : p <;> simp [h]
@[simp] theorem if_to (p : Prop) [Decidable p] (x : Bool) (st : Sto) : (if p then Rs.ok true st else Rs.ok x st) = Rs.ok (decide p || x) st := by by_cases h : p <;> simp [h]
@[simp] theorem if_tc (p : Prop) [Decidable p] (x : Bool) (st : Sto) : (if p then Rs.ok false st else Rs.ok x st) = Rs.ok (!decide p && x) st := by by_cases h : p <;> simp [h]
@[simp] theorem if_td (p : Prop) [Decidable p] (x : Bool) (st : Sto) : (if p then Rs.ok x st else Rs.ok true st) = Rs.ok (!decide p || x) st := by by_cases h : p <;> simp [h]
@[simp] theorem if_a2 (b x : Bool) (st : Sto) : (if b = true then Rs.ok (Wv.d (.bool x)) st else Rs.ok (Wv.d (.bool b)) st) = Rs.ok (Wv.d (.bool (b && x))) st := by cases b <;> rfl
@[simp] theorem if_o2 (b x : Bool) (st : Sto) : (if b = true then Rs.ok (Wv.d (.bool b)) st else Rs.ok (Wv.d (.bool x)) st) = Rs.ok (Wv.d (.bool (b || x))) st := by cases b <;> rfl
noncomputable def sixW (env : En) (w j x : Wv) (st3 : Sto) : SR := match x with
  | .d y => match setW w j y st3 with
    | some st4 => .nx env st4
    | none => .no
  | _ => .no
@[simp] theorem x_six (env : En) (st : Sto) (co ci ce : En → Sto → Rs Wv) : sIx co ci ce env st = (ce env st).sb fun x st1 => (co env st1).sb fun w st2 => (ci env st2).sb fun j st3 => sixW env w j x st3 := rfl
@[simp] theorem x_gN (i : Nat) (w : Wv) (env : En) : gN i w env = some (env.set i (some w)) := rfl
@[simp] theorem x_gTp (g : List PyData → En → Option En) (xs : List PyData) (env : En) : gTp g (.d (.tuple xs)) env = g xs env := rfl
@[simp] theorem x_gNl (env : En) : gNl [] env = some env := rfl
@[simp] theorem x_gCn (g : Wv → En → Option En) (h : List PyData → En → Option En) (x : PyData) (r : List PyData) (env : En) : gCn g h (x :: r) env = (g (.d x) env).bind (h r) := rfl
@[simp] theorem x_mk (np N : Nat) (b : En → Sto → SR) (ws : List Wv) (st : Sto) : mkF np N b ws st = if ws.length = np then endS st.length (b (ws.map some ++ List.replicate (N - ws.length) none) st) else .no := rfl
@[simp] theorem x_end_nx (n : Nat) (env : En) (st : Sto) : endS n (.nx env st) = .ok (.d .none) (st.take n) := rfl
@[simp] theorem x_end_d (n : Nat) (x : PyData) (st : Sto) : endS n (.rt (.w (.d x)) st) = .ok (.d x) (st.take n) := rfl
@[simp] theorem x_end_fd (n : Nat) (x : PyData) (st : Sto) : endS n (.rt (.f (Wv.d x)) st) = .ok (.d x) (st.take n) := rfl
theorem x_end_fr {n i : Nat} {st : Sto} {xs : List PyData} (hi : n ≤ i) (h : st[i]? = some (.lst xs)) : endS n (.rt (.f (.r i)) st) = .ok (.d (.list xs)) (st.take n) := by
  show (match frzW n st (.r i) with | some x => Rs.ok (Wv.d x) (st.take n) | none => .no) = _
  unfold frzW
  simp [hi, h]
theorem x_end_r {n i : Nat} {st : Sto} {o : Ob} (hi : n ≤ i) (h : st[i]? = some o) : endS n (.rt (.w (.r i)) st) = .ok (.r n) (st.take n ++ [o]) := by
  show (if i < n then Rs.ok (Wv.r i) (st.take n) else match st[i]? with | some o => Rs.ok (Wv.r n) (st.take n ++ [o]) | none => .no) = _
  rw [if_neg (by omega), h]
/-! ## the operations on data -/
@[simp] theorem o_add_i (i j : Int) : addD (.int i) (.int j) = some (.int (i + j)) := rfl
@[simp] theorem o_add_t (xs ys : List PyData) : addD (.tuple xs) (.tuple ys) = if xs.length + ys.length ≤ 1000000 then some (.tuple (xs ++ ys)) else none := rfl
@[simp] theorem o_add_l (xs ys : List PyData) : addD (.list xs) (.list ys) = if xs.length + ys.length ≤ 1000000 then some (.list (xs ++ ys)) else none := rfl
@[simp] theorem o_sub_i (i j : Int) : subD (.int i) (.int j) = some (.int (i - j)) := rfl
@[simp] theorem o_mul_i (i j : Int) : mulD (.int i) (.int j) = if bigOk i j = true then some (.int (i * j)) else none := rfl
@[simp] theorem o_mul_t (xs : List PyData) (k : Int) : mulD (.tuple xs) (.int k) = if k = 1 then some (.tuple xs) else if 2 ≤ k ∧ k ≤ 1000 ∧ xs.length ≤ 1000 ∧ xs ≠ [] then some (.tuple (List.replicate k.toNat xs).flatten) else if xs = [] ∧ 0 ≤ k ∧ k ≤ 1000 then some (.tuple []) else none := rfl
@[simp] theorem o_mul_l (xs : List PyData) (k : Int) : mulD (.list xs) (.int k) = if 0 ≤ k ∧ k ≤ 1000 ∧ xs.length ≤ 1000 then some (.list (List.replicate k.toNat xs).flatten) else none := rfl
@[simp] theorem o_div_i (i j : Int) : divD (.int i) (.int j) = if 0 < j ∧ j < 1073741824 then some (.int (i / j)) else if 0 < j ∧ j < 1606938044258990275541962092341162602522202993782792835301376 then some (.int (i / j)) else none := rfl
@[simp] theorem o_mod_i (i j : Int) : modD (.int i) (.int j) = if 0 < j then some (.int (i % j)) else none := rfl
@[simp] theorem o_pow_i (i j : Int) : powD (.int i) (.int j) = if 0 ≤ j ∧ j ≤ 1000 ∧ i.natAbs < 18446744073709551616 then some (.int (i ^ j.toNat)) else none := rfl
@[simp] theorem o_neg_i (i : Int) : negD (.int i) = some (.int (-i)) := rfl
@[simp] theorem o_eq_i (i j : Int) : eqD (.int i) (.int j) = some (.bool (i == j)) := rfl
@[simp] theorem o_ne_i (i j : Int) : neD (.int i) (.int j) = some (.bool (!(i == j))) := rfl
@[simp] theorem o_eq_b (i j : Bool) : eqD (.bool i) (.bool j) = some (.bool (i == j)) := rfl
@[simp] theorem o_ne_b (i j : Bool) : neD (.bool i) (.bool j) = some (.bool (!(i == j))) := rfl
@[simp] theorem o_eq_s (i j : Str) : eqD (.str i) (.str j) = some (.bool (i == j)) := rfl
@[simp] theorem o_ne_s (i j : Str) : neD (.str i) (.str j) = some (.bool (!(i == j))) := rfl
@[simp] theorem o_lt_i (i j : Int) : ltD (.int i) (.int j) = some (.bool (decide (i < j))) := rfl
@[simp] theorem o_gt_i (i j : Int) : gtD (.int i) (.int j) = some (.bool (decide (j < i))) := rfl
@[simp] theorem o_le_i (i j : Int) : leD (.int i) (.int j) = some (.bool (decide (i ≤ j))) := rfl
@[simp] theorem o_ge_i (i j : Int) : geD (.int i) (.int j) = some (.bool (decide (j ≤ i))) := rfl
@[simp] theorem o_is_n (a : PyData) : isND a .none = some (.bool (isNone a)) := rfl
@[simp] theorem o_nt_n (a : PyData) : ntND a .none = some (.bool (!isNone a)) := rfl
@[simp] theorem o_ix_t (xs : List PyData) (i : Int) : ixD (.tuple xs) (.int i) = atD xs i := rfl
@[simp] theorem o_ix_l (xs : List PyData) (i : Int) : ixD (.list xs) (.int i) = atD xs i := rfl
@[simp] theorem o_sl_t (xs : List PyData) (i j : Option Int) : slD i j (.tuple xs) = some (.tuple (cutD xs i j)) := rfl
@[simp] theorem o_sl_l (xs : List PyData) (i j : Option Int) : slD i j (.list xs) = some (.list (cutD xs i j)) := rfl
@[simp] theorem o_len_t (xs : List PyData) : lenF [.tuple xs] = some (.int xs.length) := rfl
@[simp] theorem o_len_l (xs : List PyData) : lenF [.list xs] = some (.int xs.length) := rfl
@[simp] theorem o_tup_t (xs : List PyData) : tupF [.tuple xs] = some (.tuple xs) := rfl
@[simp] theorem o_tup_l (xs : List PyData) : tupF [.list xs] = some (.tuple xs) := rfl
@[simp] theorem o_lst_t (xs : List PyData) : lstF [.tuple xs] = some (.list xs) := rfl
@[simp] theorem o_lst_l (xs : List PyData) : lstF [.list xs] = some (.list xs) := rfl
@[simp] theorem o_int_i (i : Int) : intF [.int i] = some (.int i) := rfl
@[simp] theorem o_int_b (b : Bool) : intF [.bool b] = some (.int (if b then 1 else 0)) := rfl
@[simp] theorem o_rev_t (xs : List PyData) : revD (.tuple xs) = some (.tuple xs.reverse) := rfl
@[simp] theorem o_rev_l (xs : List PyData) : revD (.list xs) = some (.list xs.reverse) := rfl
@[simp] theorem o_max2 (i j : Int) : max2F [.int i, .int j] = some (.int (if j > i then j else i)) := rfl
@[simp] theorem o_min2 (i j : Int) : min2F [.int i, .int j] = some (.int (if j < i then j else i)) := rfl
@[simp] theorem o_all (bs : List Bool) : allF [.list (bs.map .bool)] = some (.bool (bs.all id)) := by show (boolsOf _).map _ = _; rw [boolsOf_map]; rfl
@[simp] theorem o_sum_l (ns : List Int) : sumF [.list (ns.map .int)] = some (.int ns.sum) := by show (intsOf _).map _ = _; rw [intsOf_map]; rfl
@[simp] theorem o_sum_t (ns : List Int) : sumF [.tuple (ns.map .int)] = some (.int ns.sum) := by show (intsOf _).map _ = _; rw [intsOf_map]; rfl
@[simp] theorem tru_i (i : Int) (st : Sto) : tru (.d (.int i)) st = .ok (!(i == 0)) st := rfl
theorem atD_nat {α : Type} {xs : List α} {i : Nat} : atD xs (i : Nat) = xs[i]? := by
  unfold atD
  unfold ixN
  rw [if_pos (by omega)]
  split
  · simp
  · simp; omega
@[simp] theorem atD_0 {α : Type} (x : α) (xs : List α) : atD (x :: xs) 0 = some x := atD_nat (i := 0)
@[simp] theorem atD_1 {α : Type} (x y : α) (xs : List α) : atD (x :: y :: xs) 1 = some y := atD_nat (i := 1)
@[simp] theorem atD_2 {α : Type} (x y z : α) (xs : List α) : atD (x :: y :: z :: xs) 2 = some z := atD_nat (i := 2)
@[simp] theorem atD_3 {α : Type} (x y z w : α) (xs : List α) : atD (x :: y :: z :: w :: xs) 3 = some w := atD_nat (i := 3)
@[simp] theorem isa_int_none  : isaD "int" .none = some (.bool false) := rfl
@[simp] theorem isa_int_bool (b : Bool) : isaD "int" (.bool b) = some (.bool true) := rfl
@[simp] theorem isa_int_int (i : Int) : isaD "int" (.int i) = some (.bool true) := rfl
@[simp] theorem isa_int_str (x : Str) : isaD "int" (.str x) = some (.bool false) := rfl
@[simp] theorem isa_int_list (xs : List PyData) : isaD "int" (.list xs) = some (.bool false) := rfl
@[simp] theorem isa_int_tuple (xs : List PyData) : isaD "int" (.tuple xs) = some (.bool false) := rfl
@[simp] theorem isa_int_dict (es : List (PyData × PyData)) : isaD "int" (.dict es) = some (.bool false) := rfl
@[simp] theorem isa_bool_none  : isaD "bool" .none = some (.bool false) := rfl
@[simp] theorem isa_bool_bool (b : Bool) : isaD "bool" (.bool b) = some (.bool true) := rfl
@[simp] theorem isa_bool_int (i : Int) : isaD "bool" (.int i) = some (.bool false) := rfl
@[simp] theorem isa_bool_str (x : Str) : isaD "bool" (.str x) = some (.bool false) := rfl
@[simp] theorem isa_bool_list (xs : List PyData) : isaD "bool" (.list xs) = some (.bool false) := rfl
@[simp] theorem isa_bool_tuple (xs : List PyData) : isaD "bool" (.tuple xs) = some (.bool false) := rfl
@[simp] theorem isa_bool_dict (es : List (PyData × PyData)) : isaD "bool" (.dict es) = some (.bool false) := rfl
@[simp] theorem isa_str_none  : isaD "str" .none = some (.bool false) := rfl
@[simp] theorem isa_str_bool (b : Bool) : isaD "str" (.bool b) = some (.bool false) := rfl
@[simp] theorem isa_str_int (i : Int) : isaD "str" (.int i) = some (.bool false) := rfl
@[simp] theorem isa_str_str (x : Str) : isaD "str" (.str x) = some (.bool true) := rfl
@[simp] theorem isa_str_list (xs : List PyData) : isaD "str" (.list xs) = some (.bool false) := rfl
@[simp] theorem isa_str_tuple (xs : List PyData) : isaD "str" (.tuple xs) = some (.bool false) := rfl
@[simp] theorem isa_str_dict (es : List (PyData × PyData)) : isaD "str" (.dict es) = some (.bool false) := rfl
@[simp] theorem isa_tuple_none  : isaD "tuple" .none = some (.bool false) := rfl
@[simp] theorem isa_tuple_bool (b : Bool) : isaD "tuple" (.bool b) = some (.bool false) := rfl
@[simp] theorem isa_tuple_int (i : Int) : isaD "tuple" (.int i) = some (.bool false) := rfl
@[simp] theorem isa_tuple_str (x : Str) : isaD "tuple" (.str x) = some (.bool false) := rfl
@[simp] theorem isa_tuple_list (xs : List PyData) : isaD "tuple" (.list xs) = some (.bool false) := rfl
@[simp] theorem isa_tuple_tuple (xs : List PyData) : isaD "tuple" (.tuple xs) = some (.bool true) := rfl
@[simp] theorem isa_tuple_dict (es : List (PyData × PyData)) : isaD "tuple" (.dict es) = some (.bool false) := rfl
@[simp] theorem isa_list_none  : isaD "list" .none = some (.bool false) := rfl
@[simp] theorem isa_list_bool (b : Bool) : isaD "list" (.bool b) = some (.bool false) := rfl
@[simp] theorem isa_list_int (i : Int) : isaD "list" (.int i) = some (.bool false) := rfl
@[simp] theorem isa_list_str (x : Str) : isaD "list" (.str x) = some (.bool false) := rfl
@[simp] theorem isa_list_list (xs : List PyData) : isaD "list" (.list xs) = some (.bool true) := rfl
@[simp] theorem isa_list_tuple (xs : List PyData) : isaD "list" (.tuple xs) = some (.bool false) := rfl
@[simp] theorem isa_list_dict (es : List (PyData × PyData)) : isaD "list" (.dict es) = some (.bool false) := rfl
@[simp] theorem isa_dict_none  : isaD "dict" .none = some (.bool false) := rfl
@[simp] theorem isa_dict_bool (b : Bool) : isaD "dict" (.bool b) = some (.bool false) := rfl
@[simp] theorem isa_dict_int (i : Int) : isaD "dict" (.int i) = some (.bool false) := rfl
@[simp] theorem isa_dict_str (x : Str) : isaD "dict" (.str x) = some (.bool false) := rfl
@[simp] theorem isa_dict_list (xs : List PyData) : isaD "dict" (.list xs) = some (.bool false) := rfl
@[simp] theorem isa_dict_tuple (xs : List PyData) : isaD "dict" (.tuple xs) = some (.bool false) := rfl
@[simp] theorem isa_dict_dict (es : List (PyData × PyData)) : isaD "dict" (.dict es) = some (.bool true) := rfl
@[simp] theorem isN_n : isNone .none = true := rfl
@[simp] theorem isN_bool (b : Bool) : isNone (.bool b) = false := rfl
@[simp] theorem isN_int (i : Int) : isNone (.int i) = false := rfl
@[simp] theorem isN_str (x : Str) : isNone (.str x) = false := rfl
@[simp] theorem isN_list (xs : List PyData) : isNone (.list xs) = false := rfl
@[simp] theorem isN_tuple (xs : List PyData) : isNone (.tuple xs) = false := rfl
@[simp] theorem isN_dict (es : List (PyData × PyData)) : isNone (.dict es) = false := rfl
end
section
variable [Wtp] [Tbl]
/-! ## the store -/
@[simp] theorem end_new (st : Sto) (o : Ob) : endS st.length (.rt (.w (.r st.length)) (st ++ [o])) = .ok (.r st.length) (st ++ [o]) := by
  rw [x_end_r (o := o) (Nat.le_refl _) (by simp)]
  simp
@[simp] theorem take_set {α : Type} (xs : List α) (p : Nat) (x : α) : (xs.set p x).take xs.length = xs.set p x := List.take_of_length_le (by simp)
theorem look_l {i : Nat} {st : Sto} {xs : List PyData} (h : st[i]? = some (.lst xs)) : look st (.r i) = some (.list xs) := by
  show (match st[i]? with
    | some (.lst xs) => some (PyData.list xs)
    | some (.dct kvs) => some (.dict kvs)
    | some (.dtt kvs) => some (.dict kvs)
    | some (.lkd kvs) => some (.dict kvs)
    | some (.lkl xs) => some (.list xs)
    | none => none) = _
  rw [h]
theorem look1_l {i : Nat} {st : Sto} {xs : List PyData} (h : st[i]? = some (.lst xs)) (f : PyData → Rs Wv) : look1 (.r i) st f = f (.list xs) := by
  unfold look1
  rw [look_l h]
theorem isLst_l {i : Nat} {st : Sto} {xs : List PyData} (h : st[i]? = some (.lst xs)) : isLst st (.r i) = true := by
  unfold isLst
  simp [h]
theorem appW_l {i : Nat} {st : Sto} {xs : List PyData} (h : st[i]? = some (.lst xs)) (hl : xs.length < 1000000) (y : PyData) : appW (.r i) [.d y] st = .ok (.d .none) (st.set i (.lst (xs ++ [y]))) := by
  unfold appW
  simp [h, hl]
theorem setW_l {i : Nat} {st : Sto} {xs : List PyData} (h : st[i]? = some (.lst xs)) {t : Int} {q : Nat} (hq : ixN xs.length t = some q) (y : PyData) : setW (.r i) (.d (.int t)) y st = some (st.set i (.lst (xs.set q y))) := by
  unfold setW
  simp [h, hq]
/-! ## pens: lists of three ints -/
def Pen (p : Nat) (st : Sto) : Prop := ∃ a b c : Int, st[p]? = some (.lst [.int a, .int b, .int c])
/-- only the pen at p is turned -/
structure Pn (p : Nat) (st st' : Sto) : Prop where
  len : st'.length = st.length
  pen : Pen p st'
  sm : ∀ i, i ≠ p → st'[i]? = st[i]?
/-- below n only the pen at p is turned -/
structure Px (p n : Nat) (st st' : Sto) : Prop where
  le : n ≤ st'.length
  pen : Pen p st'
  sm : ∀ i, i < n → i ≠ p → st'[i]? = st[i]?
section
variable {p n : Nat} {st st1 st2 : Sto}
theorem Pen.lt (h : Pen p st) : p < st.length := by
  obtain ⟨_, _, _, e⟩ := h
  exact (List.getElem?_eq_some_iff.mp e).1
theorem Pn.refl (h : Pen p st) : Pn p st st := ⟨rfl, h, fun _ _ => rfl⟩
theorem Pn.trans (a : Pn p st st1) (b : Pn p st1 st2) : Pn p st st2 := ⟨b.len.trans a.len, b.pen, fun i hi => (b.sm i hi).trans (a.sm i hi)⟩
theorem Pn.set (h : Pen p st) (a b c : Int) : Pn p st (st.set p (.lst [.int a, .int b, .int c])) :=
  ⟨by simp, ⟨a, b, c, List.getElem?_set_self h.lt⟩, fun i hi => List.getElem?_set_ne (Ne.symm hi)⟩
theorem Pen.app (h : Pen p st) (l : Sto) : Pen p (st ++ l) := by
  obtain ⟨a, b, c, e⟩ := id h
  exact ⟨a, b, c, by rw [List.getElem?_append_left h.lt]; exact e⟩
theorem Pen.put (h : Pen p st) {i : Nat} (hi : i ≠ p) (o : Ob) : Pen p (st.set i o) := by
  obtain ⟨a, b, c, e⟩ := id h
  exact ⟨a, b, c, by rw [List.getElem?_set_ne hi]; exact e⟩
theorem Px.refl (h : Pen p st) : Px p st.length st st := ⟨Nat.le_refl _, h, fun _ _ _ => rfl⟩
theorem Px.pn (a : Px p n st st1) (b : Pn p st1 st2) : Px p n st st2 := ⟨by rw [b.len]; exact a.le, b.pen, fun i hi hp => (b.sm i hp).trans (a.sm i hi hp)⟩
theorem Px.app (a : Px p n st st1) (l : Sto) : Px p n st (st1 ++ l) := ⟨by rw [List.length_append]; have := a.le; omega, a.pen.app l, fun i hi hp => by rw [List.getElem?_append_left (Nat.lt_of_lt_of_le hi a.le)]; exact a.sm i hi hp⟩
theorem Px.put (a : Px p n st st1) {i : Nat} (hi : n ≤ i) (hp : p < n) (o : Ob) : Px p n st (st1.set i o) :=
  ⟨by rw [List.length_set]; exact a.le, a.pen.put (by omega) o, fun j hj hq => by rw [List.getElem?_set_ne (by omega)]; exact a.sm j hj hq⟩
theorem Px.back (a : Px p st.length st st1) (hp : p < st.length) : Pn p st (st1.take st.length) := by
  have hl : (st1.take st.length).length = st.length := by rw [List.length_take]; have := a.le; omega
  refine ⟨hl, ?_, fun i hi => ?_⟩
  · obtain ⟨x, y, z, e⟩ := a.pen
    exact ⟨x, y, z, by rw [List.getElem?_take_of_lt hp]; exact e⟩
  · by_cases q : i < st.length
    · rw [List.getElem?_take_of_lt q]; exact a.sm i q hi
    · rw [List.getElem?_eq_none (by omega), List.getElem?_eq_none (by omega)]
theorem Pn.px (a : Pn p st st1) : Px p st.length st st1 := ⟨Nat.le_of_eq a.len.symm, a.pen, fun i _ hp => a.sm i hp⟩
end
theorem rg_ok {i : Int} (h1 : -1000000 ≤ i) (h2 : i ≤ 1000000) : rgOk i = true := by
  unfold rgOk
  rw [decide_eq_true (by omega), decide_eq_true (by omega)]
  rfl
theorem rg1_ok {i : Int} (st : Sto) (h1 : -1000000 ≤ i) (h2 : i ≤ 1000000) : rg1W [.d (.int i)] st = .ok ⟨rangeD 0 i.toNat, []⟩ st := by
  unfold rg1W
  simp [rg_ok h1 h2]
theorem rangeD_len (lo : Int) (n : Nat) : (rangeD lo n).length = n := by simp [rangeD]
theorem rangeD_get {lo : Int} {n i : Nat} {x : PyData} (h : (rangeD lo n)[i]? = some x) : i < n ∧ x = .int (lo + (i : Nat)) := by
  have hi : i < n := by have := (List.getElem?_eq_some_iff.mp h).1; rwa [rangeD_len] at this
  refine ⟨hi, ?_⟩
  unfold rangeD at h
  simp [hi] at h
  exact h.symm
theorem atD_mem {α : Type} {xs : List α} {i : Int} (h1 : 0 ≤ i) (h2 : i < xs.length) : ∃ x, x ∈ xs ∧ atD xs i = some x := by
  obtain ⟨k, rfl⟩ := Int.eq_ofNat_of_zero_le h1
  have hk : k < xs.length := by simpa using h2
  exact ⟨xs[k], List.getElem_mem hk, by rw [atD_nat, List.getElem?_eq_getElem hk]⟩
/-! ## loops on data -/
@[simp] theorem forL_nil (g : Wv → En → Option En) (b : En → Sto → SR) (env : En) (st : Sto) : forL g b [] [] env st = .nx env st := by simp [forL]
@[simp] theorem forL_cons (g : Wv → En → Option En) (b : En → Sto → SR) (x : PyData) (r : List PyData) (env : En) (st : Sto) : forL g b [] (x :: r) env st = match g (.d x) env with
    | some env1 => (b env1 st).seq (forL g b [] r)
    | none => .no := by cases h : g (.d x) env <;> simp [forL, h]
/-- every turn goes on -/
theorem forL_go {g : Wv → En → Option En} {b : En → Sto → SR} (I : En → Sto → Prop) : ∀ (xs : List PyData), (∀ x ∈ xs, ∀ env st, I env st → ∃ env1 env2 st2, g (.d x) env = some env1 ∧ b env1 st = .nx env2 st2 ∧ I env2 st2) →
    ∀ env st, I env st → ∃ env2 st2, forL g b [] xs env st = .nx env2 st2 ∧ I env2 st2
  | [], _, env, st, h => ⟨env, st, by simp, h⟩
  | x :: xs, q, env, st, h => by
    obtain ⟨env1, env2, st2, e1, e2, h2⟩ := q x (by simp) env st h
    obtain ⟨env3, st3, e3, h3⟩ := forL_go I xs (fun y hy => q y (by simp [hy])) env2 st2 h2
    exact ⟨env3, st3, by rw [forL_cons, e1]; simp [e2, e3], h3⟩
/-- every turn goes on, by its number -/
theorem forL_goI {g : Wv → En → Option En} {b : En → Sto → SR} (I : Nat → En → Sto → Prop) : ∀ (xs : List PyData) (k : Nat), (∀ i x, xs[i]? = some x → ∀ env st, I (k + i) env st → ∃ env1 env2 st2, g (.d x) env = some env1 ∧ b env1 st = .nx env2 st2 ∧ I (k + i + 1) env2 st2) →
    ∀ env st, I k env st → ∃ env2 st2, forL g b [] xs env st = .nx env2 st2 ∧ I (k + xs.length) env2 st2
  | [], k, _, env, st, h => ⟨env, st, by simp, h⟩
  | x :: xs, k, q, env, st, h => by
    obtain ⟨env1, env2, st2, e1, e2, h2⟩ := q 0 x rfl env st h
    obtain ⟨env3, st3, e3, h3⟩ := forL_goI I xs (k + 1) (fun i y hy env st hI => by
      have := q (i + 1) y (by simpa using hy) env st (by rw [show k + (i + 1) = k + 1 + i by omega]; exact hI)
      rw [show k + (i + 1) + 1 = k + 1 + i + 1 by omega] at this
      exact this) env2 st2 h2
    exact ⟨env3, st3, by rw [forL_cons, e1]; simp [e2, e3], by rw [List.length_cons, show k + (xs.length + 1) = k + 1 + xs.length by omega]; exact h3⟩
/-- a comprehension of a pure part -/
theorem lcL_map {g : Wv → En → Option En} {c : En → Sto → Rs Wv} {env : En} {st : Sto} {f : PyData → PyData} : ∀ (xs acc : List PyData), (∀ x ∈ xs, ∃ env1, g (.d x) env = some env1 ∧ c env1 st = .ok (.d (f x)) st) → lcL g tYs c [] env xs acc st = .ok (acc ++ xs.map f) st
  | [], acc, _ => by simp [lcL]
  | x :: xs, acc, q => by
    obtain ⟨env1, e1, e2⟩ := q x (by simp)
    have ih := lcL_map (f := f) (g := g) (c := c) (env := env) (st := st) xs (acc ++ [f x]) fun y hy => q y (by simp [hy])
    simp [lcL, e1, e2, ih]
theorem o_all' {α : Type} (xs : List α) (p : α → Bool) : allF [.list (xs.map fun x => .bool (p x))] = some (.bool (xs.all p)) := by
  have := o_all (xs.map p)
  rw [List.map_map] at this
  rw [show (fun x => PyData.bool (p x)) = PyData.bool ∘ p from rfl, this, List.all_map]
  rfl
theorem cutD_drop {α : Type} (xs : List α) (i : Nat) : cutD xs (some (i : Int)) none = xs.drop i := by
  unfold cutD
  rw [HT.sIx_nat, HT.sIx_none]
  rcases Nat.le_total i xs.length with h | h
  · rw [Nat.min_eq_left h, List.take_of_length_le (by simp)]
  · rw [Nat.min_eq_right h, List.drop_eq_nil_of_le h, List.drop_eq_nil_of_le (Nat.le_refl _)]; simp
theorem cutD_take {α : Type} (xs : List α) (i : Nat) : cutD xs none (some (i : Int)) = xs.take i := by
  unfold cutD
  rw [HT.sIx_nat, HT.sIx_none]
  simp
theorem cutD_len {α : Type} {xs : List α} {lo hi : Option Int} : (cutD xs lo hi).length ≤ xs.length := by
  unfold cutD
  rw [List.length_take, List.length_drop]
  omega
/-! ## what can be shown -/
structure Fd (k n : Nat) (d : PyData) : Prop where
  sh : d.showable = true
  hd : d.hasDict = false
  dp : d.depth ≤ k
  ln : d.shown.length ≤ n
theorem Fd.up {k k' n n' : Nat} {d : PyData} (f : Fd k n d) (h : k ≤ k') (h' : n ≤ n') : Fd k' n' d := ⟨f.sh, f.hd, Nat.le_trans f.dp h, Nat.le_trans f.ln h'⟩
theorem fd_bool (b : Bool) : Fd 0 5 (.bool b) := ⟨rfl, rfl, Nat.le_refl _, by cases b <;> decide +kernel⟩
theorem depthAll_le {k : Nat} : ∀ {xs : List PyData}, (∀ x ∈ xs, x.depth ≤ k) → PyData.depthAll xs ≤ k
  | [], _ => Nat.zero_le _
  | x :: xs, h => by
    rw [PyData.depthAll]
    exact Nat.max_le.mpr ⟨h x (by simp), depthAll_le fun y hy => h y (by simp [hy])⟩
/-- repr of what can be shown -/
theorem o_repr {k n : Nat} {d : PyData} (f : Fd k n d) (hk : k ≤ 40) (hn : n ≤ 16000000) : reprF [d] = some (.str d.shown) := by
  have ok : reprOk d = true := by
    unfold reprOk
    have h1 := Nat.le_trans f.dp hk
    have h2 := Nat.le_trans f.ln hn
    simp [f.sh, f.hd, h1, h2]
  unfold reprF
  split
  · rename_i e
    cases e
    exact absurd f.hd (by simp [PyData.hasDict])
  · rename_i d' _ e
    cases e
    rw [if_pos ok]
  · rename_i h1 h2
    exact absurd rfl (h2 d)
/-! ## slots that nothing reads any more are given up -/
def sWp (vs : List Nat) (b : En → Sto → SR) : En → Sto → SR := fun env st => (b env st).seq fun env1 st1 => .nx (wipeE env1 vs) st1
def sWi (vs : List Nat) (b : En → Sto → SR) : En → Sto → SR := fun env st => b (wipeE env vs) st
theorem EnvR.less {K : Frg} {n : Nat} {H : Hp} {m : Mp} {env : En} {σ : L2.St} (h : EnvR K H m n env σ) (i : Nat) : EnvR K H m n (env.set i none) σ := by
  refine ⟨by simp [h.len], fun j u e => ?_⟩
  by_cases q : i = j
  · subst q
    by_cases l : i < env.length
    · rw [List.getElem?_set_self l] at e; cases e
    · rw [List.getElem?_eq_none (by simpa using l)] at e; cases e
  · rw [List.getElem?_set_ne q] at e
    exact h.at' j u e
theorem EnvR.lesss {K : Frg} {n : Nat} {H : Hp} {m : Mp} {env : En} {σ : L2.St} (h : EnvR K H m n env σ) : ∀ vs : List Nat, EnvR K H m n (wipeE env vs) σ
  | [] => h
  | i :: vs => (EnvR.lesss h vs).less i
theorem db_wp {X : Cx} {es : List Stmt} {c : En → Sto → SR} (vs : List Nat) (h : DB X es c) : DB X es (sWp vs c) := by
  refine ⟨fun W tk => PSs.imp (h.pss W tk) fun D σ H ⟨m, env, st, S, R, hp⟩ => ⟨m, env, st, S, R, ?_⟩⟩
  unfold sWp at hp
  rw [SR.post_seq] at hp
  exact SR.post_mono hp (fun env1 st1 q σ1 H1 m1 f1 S1 R1 => q σ1 H1 m1 f1 S1 (R1.lesss vs)) (fun _ _ q => q) fun _ _ q => q
@[simp] theorem x_wp (vs : List Nat) (b : En → Sto → SR) (env : En) (st : Sto) : sWp vs b env st = (b env st).seq fun env1 st1 => .nx (wipeE env1 vs) st1 := rfl
@[simp] theorem x_wi (vs : List Nat) (b : En → Sto → SR) (env : En) (st : Sto) : sWi vs b env st = b (wipeE env vs) st := rfl
@[simp] theorem wipe_nil (env : En) : wipeE env [] = env := rfl
@[simp] theorem wipe_cons (env : En) (i : Nat) (vs : List Nat) : wipeE env (i :: vs) = (wipeE env vs).set i none := rfl
/-- every turn goes on; what there is behind i turns is known -/
theorem forL_at {g : Wv → En → Option En} {b : En → Sto → SR} (E : Nat → En) (S : Nat → Sto) (xs : List PyData) (h : ∀ i x, xs[i]? = some x → ∃ env1, g (.d x) (E i) = some env1 ∧ b env1 (S i) = .nx (E (i + 1)) (S (i + 1))) :
    forL g b [] xs (E 0) (S 0) = .nx (E xs.length) (S xs.length) := by
  obtain ⟨env, st, e, rfl, rfl⟩ := forL_goI (g := g) (b := b) (fun i env st => env = E i ∧ st = S i) xs 0 (fun i x hx env st hI => by
    rw [Nat.zero_add] at hI ⊢
    obtain ⟨rfl, rfl⟩ := hI
    obtain ⟨env1, e1, e2⟩ := h i x hx
    exact ⟨env1, _, _, e1, e2, rfl, rfl⟩) (E 0) (S 0) ⟨rfl, rfl⟩
  rw [e, Nat.zero_add]
/-- what a loop that only seeks gives -/
def seek (r : Option Rt) (env : En) (st : Sto) : SR := match r with
  | some r => .rt r st
  | none => .nx env st
@[simp] theorem seek_some (r : Rt) (env : En) (st : Sto) : seek (some r) env st = .rt r st := rfl
@[simp] theorem seek_none (env : En) (st : Sto) : seek none env st = .nx env st := rfl
theorem forL_seek {α : Type} {g : Wv → En → Option En} {b : En → Sto → SR} {env : En} {st : Sto} (enc : α → PyData) (q : α → Option Rt) : ∀ (L : List α), (∀ a ∈ L, ∃ env1, g (.d (enc a)) env = some env1 ∧ b env1 st = seek (q a) env st) →
    forL g b [] (L.map enc) env st = seek (L.findSome? q) env st
  | [], _ => by simp
  | a :: L, h => by
    obtain ⟨env1, e1, e2⟩ := h a (by simp)
    rw [List.map_cons, forL_cons, e1, List.findSome?_cons]
    dsimp only
    rw [e2]
    cases q a with
    | none => exact forL_seek enc q L fun x hx => h x (by simp [hx])
    | some r => rfl
/-- a comprehension of typed things -/
theorem lcL_mapE {α : Type} {g : Wv → En → Option En} {c : En → Sto → Rs Wv} {env : En} {st : Sto} (enc out : α → PyData) : ∀ (L : List α) (acc : List PyData), (∀ a ∈ L, ∃ env1, g (.d (enc a)) env = some env1 ∧ c env1 st = .ok (.d (out a)) st) → lcL g tYs c [] env (L.map enc) acc st = .ok (acc ++ L.map out) st
  | [], acc, _ => by simp [lcL]
  | a :: L, acc, q => by
    obtain ⟨env1, e1, e2⟩ := q a (by simp)
    have ih := lcL_mapE (g := g) (c := c) (env := env) (st := st) enc out L (acc ++ [out a]) fun y hy => q y (by simp [hy])
    simp [lcL, e1, e2, ih]
end
section
variable [Wtp] [Tbl]
/-! ## new lists of the store that an operation makes -/
def mulN : PyData → PyData → Option (List PyData)
  | .list xs, .int k => if 0 ≤ k ∧ k ≤ 1000 ∧ xs.length ≤ 1000 then some (List.replicate k.toNat xs).flatten else none
  | _, _ => none
def newO (r : Option (List PyData)) (st : Sto) : Rs Wv := match r with
  | some xs => .ok (.r st.length) (st ++ [.lst xs])
  | none => .no
@[simp] theorem newO_some (xs : List PyData) (st : Sto) : newO (some xs) st = .ok (.r st.length) (st ++ [.lst xs]) := rfl
def eOp2N (f : PyData → PyData → Option (List PyData)) (ca cb : En → Sto → Rs Wv) : En → Sto → Rs Wv := fun env st => (ca env st).bind fun a st1 => (cb env st1).bind fun b st2 => look1 a st2 fun d => look1 b st2 fun e => newO (f d e) st2
def eOpNN (f : List PyData → Option (List PyData)) (cs : En → Sto → Rs (List Wv)) : En → Sto → Rs Wv := fun env st => (cs env st).bind fun ws st1 => match looks ws st1 with
  | some ds => newO (f ds) st1
  | none => .no
@[simp] theorem x_op2n (f : PyData → PyData → Option (List PyData)) (a b : En → Sto → Rs Wv) (env : En) (st : Sto) : eOp2N f a b env st = (a env st).bind fun v st1 => (b env st1).bind fun w st2 => look1 v st2 fun d => look1 w st2 fun e => newO (f d e) st2 := rfl
@[simp] theorem x_opnn (f : List PyData → Option (List PyData)) (c : En → Sto → Rs (List Wv)) (env : En) (st : Sto) : eOpNN f c env st = (c env st).bind fun ws st1 => match looks ws st1 with
  | some ds => newO (f ds) st1
  | none => .no := rfl
@[simp] theorem o_mulN (xs : List PyData) (k : Int) : mulN (.list xs) (.int k) = if 0 ≤ k ∧ k ≤ 1000 ∧ xs.length ≤ 1000 then some (List.replicate k.toNat xs).flatten else none := rfl
section
variable {M : Md} {X : Cx} {B : Tb} {k : Nat} {σ : L2.St} {H : Hp} {m : Mp} {W : WX} {ca cb : En → Sto → Rs Wv} {cs : En → Sto → Rs (List Wv)} {pos p : Pos} {a b : Expr}
def slDN (lo hi : Option Int) : PyData → Option (List PyData)
  | .list xs => some (cutD xs lo hi)
  | _ => none
def eSliceN (c : En → Sto → Rs Wv) (l h : En → Sto → Rs (Option Int)) : En → Sto → Rs Wv := fun env st => (c env st).bind fun w st1 => (l env st1).bind fun lo st2 => (h env st2).bind fun hi st3 => look1 w st3 fun d => newO (slDN lo hi d) st3
@[simp] theorem o_slDN (lo hi : Option Int) (xs : List PyData) : slDN lo hi (.list xs) = some (cutD xs lo hi) := rfl
@[simp] theorem x_sliceN (env : En) (st : Sto) (c : En → Sto → Rs Wv) (l h : En → Sto → Rs (Option Int)) : eSliceN c l h env st = ((c env st).bind fun w st1 => (l env st1).bind fun i st2 => (h env st2).bind fun j st3 => look1 w st3 fun d => newO (slDN i j d) st3) := rfl
/-! a, b = x, y where a name lies in a cell: stores' lists too -/
def gWNl : List Wv → En → Option En := fun ws env => match ws with
  | [] => some env
  | _ => none
def gWCn (g : Wv → En → Option En) (h : List Wv → En → Option En) : List Wv → En → Option En := fun ws env => match ws with
  | w :: r => (g w env).bind (h r)
  | [] => none
def sAsgW (g : List Wv → En → Option En) (cs : En → Sto → Rs (List Wv)) : En → Sto → SR := fun env st => (cs env st).sb fun ws st1 => match g ws env with
  | some env' => .nx env' st1
  | none => .no
@[simp] theorem x_asgW (g : List Wv → En → Option En) (cs : En → Sto → Rs (List Wv)) (env : En) (st : Sto) : sAsgW g cs env st = (cs env st).sb fun ws st1 => match g ws env with | some env' => .nx env' st1 | none => .no := rfl
@[simp] theorem x_gWNl (env : En) : gWNl [] env = some env := rfl
@[simp] theorem x_gWCn (g : Wv → En → Option En) (h : List Wv → En → Option En) (w : Wv) (r : List Wv) (env : En) : gWCn g h (w :: r) env = (g w env).bind (h r) := rfl
end
/-! ## a, b = x, y where one of the names is captured -/
/-! ## a comprehension that draws -/
/-! ## loops over lists of the store -/
theorem atD_last {α : Type} (xs : List α) (z : α) : atD (xs ++ [z]) (-1) = some z := by
  unfold atD ixN
  have hl : (xs ++ [z]).length = xs.length + 1 := by simp
  rw [if_neg (by decide), if_pos (by rw [hl]; omega)]
  have e : (-1 + (((xs ++ [z]).length : Nat) : Int)).toNat = xs.length := by rw [hl]; omega
  show (xs ++ [z])[(-1 + (((xs ++ [z]).length : Nat) : Int)).toNat]? = some z
  rw [e]
  simp
end
section
variable [Wtp] [Tbl]
/-! ### {k: v, ..} that nobody writes -/
def pairsW : List Wv → Option (List (PyData × PyData))
  | [] => some []
  | .d c :: .d y :: ws => match keyD c, pairsW ws with
    | some _, some es => some ((c, y) :: es)
    | _, _ => none
  | _ => none
def mergeD (es more : List (PyData × PyData)) : List (PyData × PyData) := more.foldl (fun acc e => match keyD e.1 with
  | some k => dPut acc k e.1 e.2
  | none => acc) es
def dicW (ws : List Wv) (st : Sto) : Rs Wv := match pairsW ws with
  | some es => if es.length ≤ 15 then .ok (.d (.dict (mergeD [] es))) st else .no
  | none => .no
def eDic (cs : En → Sto → Rs (List Wv)) : En → Sto → Rs Wv := fun env st => (cs env st).bind dicW
@[simp] theorem x_dic (env : En) (st : Sto) (cs : En → Sto → Rs (List Wv)) : eDic cs env st = (cs env st).bind dicW := rfl
def pairUp : List V → List (V × V)
  | x :: y :: r => (x, y) :: pairUp r
  | _ => []
structure DP (X : Cx) (keys : List (Option Expr)) (vals : List Expr) (cs : En → Sto → Rs (List Wv)) : Prop where
  all : keys.all (·.isSome) = true
  len : keys.length = vals.length
  pp : ∀ W, Takes X W → ∃ trs : List (TE × TE), (∀ pos, PPs X pos keys vals trs) ∧ ∀ σ H Q, tA X W cs σ H (fun vs H' => Q (pairUp vs) H') → tPairs trs σ H Q
section
variable {X : Cx} {pos : Pos}
theorem dp_nil : DP X [] [] aNil := ⟨rfl, rfl, fun W tk => ⟨[], fun _ => pps_nil, fun σ H Q ⟨m, env, st, S, R, hp⟩ => hp [] H m .refl S .nil⟩⟩
theorem dp_cons {k v : Expr} {ks : List (Option Expr)} {vs : List Expr} {ck cv : En → Sto → Rs Wv} {cs : En → Sto → Rs (List Wv)} (hk : DE X k ck) (hv : DE X v cv) (hr : DP X ks vs cs) : DP X (some k :: ks) (v :: vs) (aCons ck (aCons cv cs)) := by
  refine ⟨by rw [List.all_cons, hr.all]; rfl, by rw [List.length_cons, List.length_cons, hr.len], fun W tk => ?_⟩
  obtain ⟨trs, h1, h2⟩ := hr.pp W tk
  refine ⟨(tE X W ck, tE X W cv) :: trs, fun pos => pps_cons (hk.pe W tk) (hv.pe W tk) (h1 pos), fun σ H Q ⟨m, env, st, S, R, hp⟩ => ?_⟩
  unfold aCons at hp
  rw [Rs.post_bind] at hp
  refine ⟨m, env, st, S, R, Rs.post_mono hp (fun w st1 q v H1 m1 f1 S1 r1 => ?_) fun _ _ q => q⟩
  rw [Rs.post_bind, Rs.post_bind] at q
  refine ⟨m1, env, st1, S1, R.mv f1, Rs.post_mono q (fun w2 st2 q v2 H2 m2 f2 S2 r2 => ?_) fun _ _ q => okX.tr f1 q⟩
  rw [Rs.post_bind] at q
  refine h2 _ _ _ ⟨m2, env, st2, S2, (R.mv f1).mv f2, Rs.post_mono q (fun ws st3 q vs H3 m3 f3 S3 r3 => ?_) fun _ _ q => okX.tr (f1.trans f2) q⟩
  exact q (v :: v2 :: vs) H3 m3 ((f1.trans f2).trans f3) S3 (.cons ((r1.mv f2).mv f3) (.cons (r2.mv f3) r3))
theorem Kp.pushK {K : Frg} {m : Mp} {H : Hp} {n : Nat} {D : Addr} {xs ys : List (Key × V)} (hF : m.F D) (hD : H D = some (.dK ys)) : Kp K H (Off m n) (upd H D (.dK xs)) (Off m n) := by
  refine ⟨fun a us h => ?_, fun a o u h => ?_, fun a o _ h z => ⟨?_, z⟩⟩
  · rw [upd_ne]; exact h
    intro e; rw [e, hD] at h; cases h
  · rw [upd_ne]; exact h
    intro e; rw [e, hD] at h; cases h
  · rw [upd_ne]; exact h
    exact fun e => z.2 (e ▸ hF)
theorem Sim.pushK {K : Frg} {m : Mp} {H : Hp} {st : Sto} {D : Addr} {xs ys : List (Key × V)} (S : Sim K H m st) (hF : m.F D) (hD : H D = some (.dK ys)) : Sim K (upd H D (.dK xs)) m st := by
  have kp := Kp.pushK (K := K) (n := st.length) (xs := xs) hF hD
  refine ⟨fun i u e => ?_, S.inj, fun a z => ?_, S.fi, S.tb.wr hD (.inr (.inl ⟨_, rfl⟩))⟩
  · have h := S.ob i u e
    have hi : i < st.length := (List.getElem?_eq_some_iff.mp e).1
    have hx : m.ix i ≠ D := fun e => S.fi i hi (e ▸ hF)
    cases u with
    | lst xs => obtain ⟨vs, h1, h2⟩ := h; exact ⟨vs, by rw [upd_ne hx]; exact h1, h2.mv kp⟩
    | dct kvs => obtain ⟨vs, h1, h2⟩ := h; exact ⟨vs, by rw [upd_ne hx]; exact h1, RpK.kp kp _ _ h2⟩
    | dtt kvs => obtain ⟨vs, h1, h2⟩ := h; exact ⟨vs, by rw [upd_ne hx]; exact h1, RpT.kp kp _ _ h2⟩
    | lkd es => exact Rp.mv h kp
    | lkl xs => exact FzL.mv h kp
  · by_cases e : a = D
    · rw [e]; exact ⟨_, upd_same, nt_dK⟩
    · obtain ⟨o, h, nt⟩ := S.ff a z
      exact ⟨o, by rw [upd_ne e]; exact h, nt⟩
theorem pairs_rp {Z : Addr → Prop} {H H' : Hp} {m : Mp} {n : Nat} (kp : Kp X.K H (Off m n) H' Z) : ∀ {ws : List Wv} {vs : List V} {es : List (PyData × PyData)}, RWs X.K H m n vs ws → pairsW ws = some es →
    ∃ kvs : List (Key × V), pairUp vs = kvs.map (fun kv => (kV kv.1, kv.2)) ∧ kvs.length = es.length ∧ ∀ kvs0 es0, RpK X.K H' Z kvs0 es0 → RpK X.K H' Z (mergeK kvs0 kvs) (mergeD es0 es)
  | [], _, _, .nil, e => by cases e; exact ⟨[], rfl, rfl, fun _ _ h => h⟩
  | [.d c], _, _, .cons _ .nil, e => by cases e
  | .d c :: .d y :: ws, _, es, .cons (v := v1) r1 (.cons (v := v2) (vs := vs) r2 r3), e => by
    unfold pairsW at e
    split at e
    · rename_i k es1 hk h1
      cases e
      obtain ⟨kvs, e1, e2, q⟩ := pairs_rp kp r3 h1
      have e3 : v1 = kV k := keyD_v (.inl r1) hk
      refine ⟨(k, v2) :: kvs, ?_, by rw [List.length_cons, List.length_cons, e2], fun kvs0 es0 h0 => ?_⟩
      · rw [pairUp, e1, List.map_cons, e3]
      · have h3 := q _ _ (rpk_put hk (Rp.kp kp _ _ r2) h0)
        unfold mergeD mergeK at h3 ⊢
        rw [List.foldl_cons, List.foldl_cons]
        simp only [hk]
        exact h3
    · cases e
  | .d c :: .r i :: ws, _, _, .cons _ (.cons _ _), e => by cases e
  | .r i :: ws, _, _, .cons _ _, e => by cases e
theorem de_dic {keys : List (Option Expr)} {vals : List Expr} {cs : En → Sto → Rs (List Wv)} (h : DP X keys vals cs) (h0 : keys ≠ [] := by exact fun z => nomatch z) (h15 : keys.length ≤ 15 := by decide) : DE X (.Dict keys vals pos) (eDic cs) := by
  refine ⟨fun W tk => ?_⟩
  obtain ⟨trs, h1, h2⟩ := h.pp W tk
  refine PE.imp (pe_freeze (pe_disp (h1 pos) h.all h.len h0 h15)) fun σ H Q ⟨m, env, st, S, R, hp⟩ => ?_
  unfold eDic at hp
  rw [Rs.post_bind] at hp
  intro p hn
  obtain ⟨S0, f0⟩ := S.start (o := .dK []) hn
  refine h2 _ _ _ ⟨m.with p, env, st, S0, R.mv f0, Rs.post_mono hp (fun ws st1 q vs H1 m1 f1 S1 r1 => ?_) fun _ _ q => okX.tr f0 q⟩
  unfold dicW at q
  split at q
  · rename_i es he
    split at q
    · rename_i hl
      have hp0 : Nn (upd H p (.dK [])) p := ⟨_, upd_same, nt_dK⟩
      have F1 : m1.F p := (f1.eF p hp0).mpr (.inr rfl)
      have hx : ∀ i, i < st1.length → m1.ix i ≠ p := fun i hi e => S1.fi i hi (e ▸ F1)
      have hD : H1 p = some (.dK []) := f1.rest p _ nt_dK upd_same (fun i hi e => nn_no hn (by have := S.there hi; rwa [show m.ix i = p from e] at this))
      have kp0 : ∀ xs, Kp X.K H1 (Off m1 st1.length) (upd H1 p (.dK xs)) (Off (m1.done p) st1.length) := fun xs => by
        have k := Kp.pushK (K := X.K) (n := st1.length) (xs := xs) F1 hD
        exact ⟨k.1, k.2, fun a o nt h z => ⟨(k.3 a o nt h z).1, off_done a (k.3 a o nt h z).2⟩⟩
      obtain ⟨kvs, e1, e2, -⟩ := pairs_rp (kp0 []) r1 he
      refine ⟨hD, kvs, e1, by omega, p, .dK (mergeK [] kvs), rfl, upd_same, .inl ⟨_, rfl⟩, fun o => ?_⟩
      have eU : upd (upd H1 p (.dK (mergeK [] kvs))) p (.frz o (.dK (mergeK [] kvs))) = upd H1 p (.frz o (.dK (mergeK [] kvs))) := by funext b; by_cases z : b = p <;> simp [upd, z]
      rw [eU]
      have kF : Kp X.K H1 (Off m1 st1.length) (upd H1 p (.frz o (.dK (mergeK [] kvs)))) (Off (m1.done p) st1.length) := by
        rw [← fz_one]
        exact (kp0 _).trans (fz_kp fun _ z => z)
      obtain ⟨kvs', e1', e2', qq⟩ := pairs_rp kF r1 he
      have ek : kvs' = kvs := by
        have h := e1'.symm.trans e1
        exact (List.map_inj_right (fun a b z => by
          obtain ⟨a1, a2⟩ := a
          obtain ⟨b1, b2⟩ := b
          simp only [Prod.mk.injEq] at z ⊢
          exact ⟨kV_inj z.1, z.2⟩)).mp h
      subst ek
      have S2 : Sim X.K (upd H1 p (.dK (mergeK [] kvs'))) (m1.done p) st1 := (S1.pushK F1 hD).sub rfl fun a z => z.1
      have S3 := S2.fz' (n := st1.length) (os := fun _ => o) (as := [p]) (Nat.le_refl _) (fun i hi z => hx i hi (List.mem_singleton.mp z))
      rw [fz_one, List.take_length] at S3
      exact q _ _ (m1.done p) (((f0.trans f1).done (nn_no hn)).updD (nn_no hn)) S3 (.dic upd_same (qq _ _ .nil))
    · exact q.elim
  · exact q.elim
end
/-! ### least and greatest of a list -/
open PySem.W in
def alikeB (xs : List PyData) : Bool := xs.all (fun x => xs.all (alike x)) && xs.all (fun x => match x with | .none => false | _ => true)
open PySem.W in
def bestF (f : PyData → List PyData → PyData) : List PyData → Option PyData
  | [d] => match seqOf d with
    | some (x :: xs) => if alikeB (x :: xs) = true ∧ PyData.depthAll (x :: xs) ≤ 40 then some (f x xs) else none
    | _ => none
  | _ => none
end
section
variable [Wtp] [Tbl]
/-! ### calls with keywords -/
def eOpK (f : List PyData → List PyData → Option PyData) (cs ck : En → Sto → Rs (List Wv)) : En → Sto → Rs Wv := fun env st =>
  (cs env st).bind fun ws st1 => (ck env st1).bind fun zs st2 => match looks ws st2, looks zs st2 with
    | some ds, some es => ret1 (f ds es) st2
    | _, _ => .no
@[simp] theorem x_opK (env : En) (st : Sto) (f : List PyData → List PyData → Option PyData) (cs ck : En → Sto → Rs (List Wv)) : eOpK f cs ck env st = ((cs env st).bind fun ws st1 => (ck env st1).bind fun zs st2 => match looks ws st2, looks zs st2 with
    | some ds, some es => ret1 (f ds es) st2
    | _, _ => .no) := rfl
def eOpKN (f : List PyData → List PyData → Option (List PyData)) (cs ck : En → Sto → Rs (List Wv)) : En → Sto → Rs Wv := fun env st =>
  (cs env st).bind fun ws st1 => (ck env st1).bind fun zs st2 => match looks ws st2, looks zs st2 with
    | some ds, some es => newO (f ds es) st2
    | _, _ => .no
@[simp] theorem x_opKN (env : En) (st : Sto) (f : List PyData → List PyData → Option (List PyData)) (cs ck : En → Sto → Rs (List Wv)) : eOpKN f cs ck env st = ((cs env st).bind fun ws st1 => (ck env st1).bind fun zs st2 => match looks ws st2, looks zs st2 with
    | some ds, some es => newO (f ds es) st2
    | _, _ => .no) := rfl
section
variable {M : Md} {X : Cx} {B : Tb} {k : Nat} {σ : L2.St} {H : Hp} {W : WX} {cs ck : En → Sto → Rs (List Wv)} {ca : En → Sto → Rs Wv} {pos p : Pos} {e : Expr} {es : List Expr} {kws : List Keyword}
theorem PK.imp {e : List Keyword} {t t' : TA} (h : PK X e t) (q : ∀ σ H Q, t' σ H Q → t σ H Q) : PK X e t' := ⟨fun pos pins s σ H Q I x => h.run pos pins s σ H Q I (q σ H Q x)⟩
end
/-! ### a comprehension given to a captured name -/
/-! ### min(xs, default=d), max(xs, default=d) -/
open PySem.W in
def bestK (f : PyData → List PyData → PyData) : List PyData → List PyData → Option PyData
  | [d], [e] => match seqOf d with
    | some [] => (match e with
      | .none => some .none
      | .int i => some (.int i)
      | _ => none)
    | some (x :: xs) => if alikeB (x :: xs) = true ∧ PyData.depthAll (x :: xs) ≤ 40 then some (f x xs) else none
    | none => none
  | _, _ => none
end
section
variable [Wtp] [Tbl]
/-! ### best and sorted of alike data -/
open PySem.W in
theorem alikeB_of {P : PyData → Prop} {xs : List PyData} (h : ∀ x ∈ xs, P x) (hp : ∀ x y, P x → P y → alike x y = true) (hn : ∀ x, P x → x ≠ .none) : alikeB xs = true := by
  unfold alikeB
  rw [Bool.and_eq_true, List.all_eq_true, List.all_eq_true]
  refine ⟨fun x hx => List.all_eq_true.mpr fun y hy => hp x y (h x hx) (h y hy), fun x hx => ?_⟩
  have := hn x (h x hx)
  cases x <;> first | rfl | exact absurd rfl this
theorem best_ok {f : PyData → List PyData → PyData} {x : PyData} {xs : List PyData} (h : alikeB (x :: xs) = true) (hd : ∀ y ∈ x :: xs, y.depth ≤ 40) : bestF f [.list (x :: xs)] = some (f x xs) := by
  have hd' := depthAll_le hd
  unfold bestF seqOf
  dsimp only
  rw [if_pos ⟨h, hd'⟩]
@[simp] theorem bestK_nil_n (f : PyData → List PyData → PyData) : bestK f [.list []] [.none] = some .none := rfl
@[simp] theorem bestK_nil_i (f : PyData → List PyData → PyData) (i : Int) : bestK f [.list []] [.int i] = some (.int i) := rfl
@[simp] theorem bestK_nilT_n (f : PyData → List PyData → PyData) : bestK f [.tuple []] [.none] = some .none := rfl
@[simp] theorem bestK_nilT_i (f : PyData → List PyData → PyData) (i : Int) : bestK f [.tuple []] [.int i] = some (.int i) := rfl
/-! ### ints -/
def IsI (d : PyData) : Prop := ∃ i : Int, d = .int i
theorem isI_alike (x y : PyData) (h : IsI x) (k : IsI y) : PySem.W.alike x y = true := by obtain ⟨i, rfl⟩ := h; obtain ⟨j, rfl⟩ := k; rfl
theorem isI_nn (x : PyData) (h : IsI x) : x ≠ .none := by obtain ⟨i, rfl⟩ := h; exact fun z => nomatch z
@[simp] theorem depth_int (i : Int) : (PyData.int i).depth = 0 := rfl
@[simp] theorem depth_pair (i j : Int) : (PyData.tuple [.int i, .int j]).depth = 1 := rfl
theorem ints_I (ns : List Int) : ∀ x ∈ ns.map PyData.int, IsI x := fun x hx => by obtain ⟨i, _, rfl⟩ := List.mem_map.mp hx; exact ⟨i, rfl⟩
theorem isI_d {x : PyData} (h : IsI x) : x.depth ≤ 40 := by obtain ⟨i, rfl⟩ := h; exact Nat.zero_le _
/-- the least, the greatest of ints -/
def mnI (x : Int) (xs : List Int) : Int := xs.foldl (fun a y => if y < a then y else a) x
def mxI (x : Int) (xs : List Int) : Int := xs.foldl (fun a y => if a < y then y else a) x
theorem dataLt_i (i j : Int) : PySem.W.dataLt (.int i) (.int j) = decide (i < j) := by
  have h := congrFun (congrFun (PySem.W.dataLe_int (fun x : Int => x)) j) i
  have h2 : PySem.W.dataLe false (fun b : Int => PyData.int b) j i = !PySem.W.dataLt (.int i) (.int j) := rfl
  rw [h2] at h
  have : (!PySem.W.dataLt (.int i) (.int j)) = decide (j ≤ i) := h
  by_cases q : i < j
  · have e : decide (j ≤ i) = false := by simp; omega
    rw [e] at this
    simpa [q] using this
  · have e : decide (j ≤ i) = true := by simp; omega
    rw [e] at this
    simpa [q] using this
theorem minD_int : ∀ (xs : List Int) (x : Int), PySem.W.minD (.int x) (xs.map .int) = .int (mnI x xs)
  | [], x => rfl
  | y :: ys, x => by
    show PySem.W.minD (if PySem.W.dataLt (.int y) (.int x) then .int y else .int x) (ys.map .int) = .int (mnI (if y < x then y else x) ys)
    rw [dataLt_i]
    by_cases q : y < x
    · rw [if_pos (by simpa using q), if_pos q]; exact minD_int ys y
    · rw [if_neg (by simpa using q), if_neg q]; exact minD_int ys x
theorem maxD_int : ∀ (xs : List Int) (x : Int), PySem.W.maxD (.int x) (xs.map .int) = .int (mxI x xs)
  | [], x => rfl
  | y :: ys, x => by
    show PySem.W.maxD (if PySem.W.dataLt (.int x) (.int y) then .int y else .int x) (ys.map .int) = .int (mxI (if x < y then y else x) ys)
    rw [dataLt_i]
    by_cases q : x < y
    · rw [if_pos (by simpa using q), if_pos q]; exact maxD_int ys y
    · rw [if_neg (by simpa using q), if_neg q]; exact maxD_int ys x
@[simp] theorem o_min_ints (x : Int) (xs : List Int) : bestF PySem.W.minD [.list ((x :: xs).map .int)] = some (.int (mnI x xs)) := by
  have hI := ints_I (x :: xs)
  rw [List.map_cons] at hI ⊢
  rw [best_ok (alikeB_of hI isI_alike isI_nn) fun y hy => isI_d (hI y hy), minD_int]
@[simp] theorem o_max_ints (x : Int) (xs : List Int) : bestF PySem.W.maxD [.list ((x :: xs).map .int)] = some (.int (mxI x xs)) := by
  have hI := ints_I (x :: xs)
  rw [List.map_cons] at hI ⊢
  rw [best_ok (alikeB_of hI isI_alike isI_nn) fun y hy => isI_d (hI y hy), maxD_int]
/-! ### lists of the store as sources -/
theorem srcW_dl (xs : List PyData) (st : Sto) : srcW (.d (.list xs)) st = .ok ⟨xs, []⟩ st := rfl
theorem srcW_dt (xs : List PyData) (st : Sto) : srcW (.d (.tuple xs)) st = .ok ⟨xs, []⟩ st := rfl
/-! ### the same shown twice is the same -/
end
section
variable [Wtp] [Tbl]
/-! ### list(range(n)), tuple(range(n)) -/
def rgLW (tup : Bool) (w : Wv) (st : Sto) : Rs Wv := match w with
  | .d (.int n) => if n ≤ 1000000 ∧ -1000000 ≤ n then .ok (.d (if tup then .tuple (rangeD 0 n.toNat) else .list (rangeD 0 n.toNat))) st else .no
  | _ => .no
def eRgL (tup : Bool) (c : En → Sto → Rs Wv) : En → Sto → Rs Wv := fun env st => (c env st).bind (rgLW tup)
@[simp] theorem x_rgL (env : En) (st : Sto) (t : Bool) (c : En → Sto → Rs Wv) : eRgL t c env st = (c env st).bind (rgLW t) := rfl
/-! ### methods of lists that read -/
def isLd (st : Sto) (w : Wv) : Bool := match look st w with
  | some (.list _) => true
  | _ => false
@[simp] theorem isLd_d (xs : List PyData) (st : Sto) : isLd st (.d (.list xs)) = true := rfl
def eMd (f : PyData → List PyData → Option PyData) (co : En → Sto → Rs Wv) (cs : En → Sto → Rs (List Wv)) : En → Sto → Rs Wv := fun env st => (co env st).bind fun w st1 => if isLd st1 w = true then (cs env st1).bind fun ws st2 => match look st2 w, looks ws st2 with
    | some d, some ds => ret1 (f d ds) st2
    | _, _ => .no
  else .no
@[simp] theorem x_md (env : En) (st : Sto) (f : PyData → List PyData → Option PyData) (co : En → Sto → Rs Wv) (cs : En → Sto → Rs (List Wv)) : eMd f co cs env st = ((co env st).bind fun w st1 => if isLd st1 w = true then (cs env st1).bind fun ws st2 => match look st2 w, looks ws st2 with
    | some d, some ds => ret1 (f d ds) st2
    | _, _ => .no
  else .no) := rfl
def rMd (K : Frg) (f : PyData → List PyData → Option PyData) : V → List V → Hp → VK → Prop := fun v vs H Q => ∃ Z d ds r, (∀ a, H a = none → Z a) ∧ RT K H Z v d ∧ RTs K H Z vs ds ∧ f d ds = some r ∧ rOut K H Z r Q
section
variable {M : Md} {X : Cx} {B : Tb} {k : Nat} {pins : List (Addr × Obj)} {σ : L2.St} {H : Hp} {s : Shared} {W : WX} {pos apos : Pos} {o e : Expr} {es : List Expr} {co : En → Sto → Rs Wv} {cs : En → Sto → Rs (List Wv)}
theorem te_md (f : PyData → List PyData → Option PyData) {Q : VK} (h : tE X W (eMd f co cs) σ H Q) : tBM X.K "list" (rMd X.K f) (tE X W co) (tA X W cs) σ H Q := by
  obtain ⟨m, env, st, S, R, hp⟩ := h
  unfold eMd at hp
  rw [Rs.post_bind] at hp
  refine ⟨m, env, st, S, R, Rs.post_mono hp (fun w st1 q1 v H1 m1 f1 S1 r1 => ?_) fun _ _ q => q⟩
  split at q1
  · rename_i hw
    rw [Rs.post_bind] at q1
    have ty : tyV X.K "list" v H1 := by
      unfold isLd at hw
      split at hw
      · rename_i xs e1
        obtain ⟨a, vs, rfl, h1, h2⟩ := (look_rt S1 r1 e1).lst
        exact .inl ⟨rfl, vs, h1.sq⟩
      · cases hw
    refine ⟨ty, m1, env, st1, S1, R.mv f1, Rs.post_mono q1 (fun ws st2 q2 vs H2 m2 f2 S2 r2 => ?_) fun _ _ z => okX.tr f1 z⟩
    split at q2
    · rename_i d ds e1 e2
      obtain ⟨r, e3, q⟩ := ret1_post q2
      exact ⟨_, d, ds, r, fun a => S2.fresh, look_rt S2 (r1.mv f2) e1, looks_rt S2 r2 e2, e3, okE.out (f1.trans f2) S2 q⟩
    · exact q2.elim
  · exact q1.elim
/-- l.count(x) -/
def cntD : PyData → List PyData → Option PyData
  | .list xs, [d] => if PyData.plainAll xs = true ∧ d.plain = true ∧ min (PyData.depthAll xs) d.depth ≤ 40 then some (.int ((xs.countP fun y => PyData.eqv y d : Nat))) else none
  | _, _ => none
theorem m_count (hr : L2H.RoomH k X.A) : MtR X "list.count" (rMd X.K cntD) := by
  intro pins s σ H x xs v us Q I rx rxs ⟨Z, d, ds, r, hz, hd, hds, hf, ho⟩
  have hu := room_eq hr (show 60 ≤ 60 by decide)
  unfold cntD at hf
  split at hf
  · rename_i ys y
    split at hf
    · rename_i hc
      cases hf
      obtain ⟨a, vs, rfl, h1, h2⟩ := hd.lst
      obtain ⟨z, rfl, h'⟩ := rts1 hds
      obtain ⟨u', rfl, rz'⟩ := vals1 rxs
      cases rx
      obtain ⟨its, rv, hl, _⟩ := I.list h1.sq
      obtain ⟨as, rd⟩ := RpA.reads I _ vs its h2 rv
      obtain ⟨bs, rb⟩ := Inv.rt I h' rz'
      exact PySem.SeqAt.count_list_data hl.isList (by simpa using rd) rb hc.1 hc.2.1 (by omega) ⟨.int _, H, I.tok _, ⟨_, rfl⟩, rout_here ho (.int _)⟩
    · cases hf
  · cases hf
end
end
section
variable [Wtp] [Tbl]
/-! ### data of a type -/
open PySem.W (Datum DatumOrd Tup minOf maxOf)
section
variable {α : Type} [DecidableEq α]
section
variable [Datum α]
theorem cmpOk_d (x y : α) (h : Datum.depth α ≤ 40) : cmpOk (Datum.toD x) (Datum.toD y) = true := by
  unfold cmpOk
  have := Datum.depth_le x
  simp only [Datum.plain, Bool.true_and, decide_eq_true_eq]
  exact Nat.le_trans (Nat.min_le_left _ _) (by omega)
theorem q_ne (x y : α) (h : Datum.depth α ≤ 40 := by decide) : neD (Datum.toD x) (Datum.toD y) = some (.bool (!decide (x = y))) := by
  unfold neD
  rw [if_pos (cmpOk_d x y h), Datum.eqv]
end
end
/-! ### ints in order -/
/-! ### a list, wherever -/
def LsIn (st : Sto) (w : Wv) (xs : List PyData) : Prop := w = .d (.list xs) ∨ ∃ i, w = .r i ∧ st[i]? = some (.lst xs)
section
variable {st : Sto} {w : Wv} {xs : List PyData}
theorem LsIn.keep (h : LsIn st w xs) {st' : Sto} (q : ∀ i, i < st.length → st'[i]? = st[i]?) : LsIn st' w xs := by
  rcases h with rfl | ⟨i, rfl, e⟩
  · exact .inl rfl
  · exact .inr ⟨i, rfl, by rw [q i (List.getElem?_eq_some_iff.mp e).1]; exact e⟩
theorem LsIn.app (h : LsIn st w xs) (l : Sto) : LsIn (st ++ l) w xs := h.keep fun i hi => List.getElem?_append_left hi
end
theorem extW_l {i : Nat} {st : Sto} {xs ys : List PyData} (h : st[i]? = some (.lst xs)) (hl : xs.length + ys.length ≤ 1000000) : extW (.r i) [.d (.list ys)] st = .ok (.d .none) (st.set i (.lst (xs ++ ys))) := by
  unfold extW
  simp [h, hl]
/-! ### x is True -/
def isB (k : Bool) : PyData → Bool
  | .bool j => j == k
  | _ => false
def ntBD (a b : PyData) : Option PyData := match b with
  | .bool k => some (.bool (!isB k a))
  | _ => none
@[simp] theorem o_ntB (j k : Bool) : ntBD (.bool j) (.bool k) = some (.bool (!(j == k))) := rfl
section
variable {X : Cx}
theorem isBl_v {K : Frg} {H : Hp} {Z : Addr → Prop} {x : V} {d : PyData} {k : Bool} (h : RT K H Z x d) : decide (x = .bl k) = isB k d := by
  cases d with
  | none => rw [h.non]; rfl
  | bool b => rw [h.bl]; cases b <;> cases k <;> rfl
  | int i => rw [h.int]; rfl
  | str x => rw [h.str]; rfl
  | list xs => obtain ⟨a, vs, rfl, _⟩ := h.lst; rfl
  | tuple xs => obtain ⟨a, vs, rfl, _⟩ := h.tup; rfl
  | dict xs => obtain ⟨a, rfl, _⟩ := h.dic; rfl
theorem rel_bl {x : V} {k : Bool} (r : RelV x (.bool k)) : x = .bl k := by
  cases x with
  | bl b => cases (show Value.bool k = Value.bool b from r); rfl
  | non => exact absurd (show Value.bool k = Value.none from r) (fun z => nomatch z)
  | int i => obtain ⟨t, e⟩ := r; cases e
  | str i => obtain ⟨t, e⟩ := r; cases e
  | byt i => exact absurd r (fun z => by obtain ⟨_, e⟩ := z; cases e)
  | flt i => exact absurd r (fun z => by obtain ⟨_, e⟩ := z; cases e)
  | ref a => exact absurd (show Value.bool k = Value.ref a from r) (fun z => nomatch z)
  | ty n => exact absurd (show Value.bool k = Value.type n from r) (fun z => nomatch z)
theorem o_ntBo : OpR X (compareOp .IsNot) (rD X.K ntBD) := by
  intro pins s σ H x y v u Q I rx ry ⟨Z, d, e, r, hz, hd, he, hf, ho⟩
  unfold ntBD at hf
  split at hf
  · rename_i k
    cases hf
    have hy := he.bl
    subst hy
    cases (show u = Value.bool k from ry)
    rw [← isBl_v (k := k) hd] at ho
    by_cases q : v = Value.bool k
    · subst q
      have := rel_bl rx
      subst this
      exact wpAny_isNot_self rfl ⟨.bl false, H, I, rfl, by simpa using rout_here ho (.bl _)⟩
    · have q2 : ¬ x = .bl k := fun z => q (by subst z; exact rx)
      have hp : PySem.plainIs v (.bool k) = true := by
        cases x <;> first
          | (cases rx; rfl)
          | (obtain ⟨t, rfl⟩ := rx; rfl)
      exact wpAny_isNot_other hp q ⟨.bl true, H, I, rfl, by simpa [q2] using rout_here ho (.bl _)⟩
  · cases hf
end
end
section
variable [Wtp] [Tbl]
/-! ## dicts of the store that are walked: pinned from there on -/
def frzV (w : Wv) (st1 : Sto) : Rs Wv := match w with
  | .r i => match st1[i]? with
    | some (.dct es) => .ok (.d (.dict es)) (st1.set i (.lkd es))
    | some (.dtt es) => .ok (.d (.dict es)) (st1.set i (.lkd es))
    | some (.lkd es) => .ok (.d (.dict es)) st1
    | some (.lst xs) => .ok (.d (.list xs)) (st1.set i (.lkl xs))
    | some (.lkl xs) => .ok (.d (.list xs)) st1
    | _ => .ok (.r i) st1
  | w => .ok w st1
def eFrz (c : En → Sto → Rs Wv) : En → Sto → Rs Wv := fun env st => (c env st).bind frzV
@[simp] theorem x_frz (env : En) (st : Sto) (c : En → Sto → Rs Wv) : eFrz c env st = (c env st).bind frzV := rfl
@[simp] theorem frzV_d (x : PyData) (st : Sto) : frzV (.d x) st = .ok (.d x) st := rfl
section
variable {M : Md} {X : Cx} {B : Tb} {k : Nat} {pins : List (Addr × Obj)} {σ : L2.St} {H : Hp} {s : Shared} {m : Mp} {env : En} {st : Sto} {W : WX} {pos apos p5 : Pos} {o e f : Expr} {co ce cf : En → Sto → Rs Wv}
/-! ## d.get(k), d.get(k, x) -/
/-- what stands at a key -/
def getO (d c : PyData) : Option (Option PyData) := match d with
  | .dict es => match keyD c with
    | some q => if kindK es = true then some (dLook es q) else none
    | none => match tkD c with
      | some q => if kindT es = true then some (dLookT es q) else none
      | none => none
  | _ => none
def isDk (st : Sto) (w : Wv) : Bool := match look st w with
  | some (.dict _) => true
  | _ => false
@[simp] theorem isDk_d (es : List (PyData × PyData)) (st : Sto) : isDk st (.d (.dict es)) = true := rfl
def eGet1 (co ce : En → Sto → Rs Wv) : En → Sto → Rs Wv := fun env st => (co env st).bind fun w st1 => if isDk st1 w = true then (ce env st1).bind fun j st2 => look1 w st2 fun d => look1 j st2 fun c => ret1 ((getO d c).map fun o => o.getD .none) st2 else .no
def eGet2 (co ce cf : En → Sto → Rs Wv) : En → Sto → Rs Wv := fun env st => (co env st).bind fun w st1 => if isDk st1 w = true then (ce env st1).bind fun j st2 => (cf env st2).bind fun y st3 => look1 w st3 fun d => look1 j st3 fun c => (match y with | .d z => ret1 ((getO d c).map fun o => o.getD z) st3 | _ => .no) else .no
@[simp] theorem x_get1 (env : En) (st : Sto) (co ce : En → Sto → Rs Wv) : eGet1 co ce env st = ((co env st).bind fun w st1 => if isDk st1 w = true then (ce env st1).bind fun j st2 => look1 w st2 fun d => look1 j st2 fun c => ret1 ((getO d c).map fun o => o.getD .none) st2 else .no) := rfl
@[simp] theorem x_get2 (env : En) (st : Sto) (co ce cf : En → Sto → Rs Wv) : eGet2 co ce cf env st = ((co env st).bind fun w st1 => if isDk st1 w = true then (ce env st1).bind fun j st2 => (cf env st2).bind fun y st3 => look1 w st3 fun d => look1 j st3 fun c => (match y with | .d z => ret1 ((getO d c).map fun o => o.getD z) st3 | _ => .no) else .no) := rfl
/-! ## str of an int, dict of a dict -/
def dcpF : List PyData → Option (List (PyData × PyData))
  | [.dict es] => if kindK es = true ∧ es ≠ [] then some es else none
  | _ => none
def eDcp (cs : En → Sto → Rs (List Wv)) : En → Sto → Rs Wv := fun env st => (cs env st).bind fun ws st1 => match looks ws st1 with
  | some ds => match dcpF ds with
    | some es => .ok (.r st1.length) (st1 ++ [.dct es])
    | none => .no
  | none => .no
@[simp] theorem x_dcp (env : En) (st : Sto) (cs : En → Sto → Rs (List Wv)) : eDcp cs env st = (cs env st).bind fun ws st1 => match looks ws st1 with
  | some ds => match dcpF ds with
    | some es => .ok (.r st1.length) (st1 ++ [.dct es])
    | none => .no
  | none => .no := rfl
/-! ## list(d): a dict's keys -/
end
end
section
variable [Wtp] [Tbl]
/-! ## xs.clear() -/
section
variable {M : Md} {X : Cx} {B : Tb} {k : Nat} {pins : List (Addr × Obj)} {σ : L2.St} {H : Hp} {s : Shared} {m : Mp} {env : En} {st : Sto} {W : WX} {pos apos p5 : Pos} {o e f : Expr} {co ce cf : En → Sto → Rs Wv} {cs : En → Sto → Rs (List Wv)}
/-! ## x[i], y[j] = a, b -/
noncomputable def swpW (o1 i1 o2 i2 : En → Sto → Rs Wv) (env : En) (ws : List Wv) (st1 : Sto) : SR := match ws with
  | [.d x, .d y] => (o1 env st1).sb fun w1 st2 => (i1 env st2).sb fun j1 st3 => match setW w1 j1 x st3 with
    | some st4 => (o2 env st4).sb fun w2 st5 => (i2 env st5).sb fun j2 st6 => match setW w2 j2 y st6 with
      | some st7 => .nx env st7
      | none => .no
    | none => .no
  | _ => .no
noncomputable def sSwp (o1 i1 o2 i2 : En → Sto → Rs Wv) (cs : En → Sto → Rs (List Wv)) : En → Sto → SR := fun env st => (cs env st).sb (swpW o1 i1 o2 i2 env)
@[simp] theorem x_swp (o1 i1 o2 i2 : En → Sto → Rs Wv) (cs : En → Sto → Rs (List Wv)) (env : En) (st : Sto) : sSwp o1 i1 o2 i2 cs env st = (cs env st).sb (swpW o1 i1 o2 i2 env) := rfl
end
/-! ## dict(xs) of a list of pairs, the keys tuples -/
open Classical in
noncomputable def prsD : List PyData → Option (List (PyData × PyData))
  | [] => some []
  | .tuple [c, d] :: r => match prsD r with
    | some es => if (tkD c).isSome = true ∧ c ∉ Wtp.W then some ((c, d) :: es) else none
    | none => none
  | _ :: _ => none
def dctT (es : List (PyData × PyData)) : List (PyData × PyData) := es.foldl (fun acc p => dPutT acc ((tkD p.1).getD []) p.1 p.2) []
noncomputable def dprW (ws : List Wv) (st1 : Sto) : Rs Wv := match looks ws st1 with
  | some [.list ds] => match prsD ds with
    | some es => .ok (.r st1.length) (st1 ++ [.dtt (dctT es)])
    | none => .no
  | _ => .no
noncomputable def eDpr (cs : En → Sto → Rs (List Wv)) : En → Sto → Rs Wv := fun env st => (cs env st).bind dprW
@[simp] theorem x_dpr (env : En) (st : Sto) (cs : En → Sto → Rs (List Wv)) : eDpr cs env st = (cs env st).bind dprW := rfl
end
section
variable [Wtp] [Tbl]
/-! ## try whose body lets nothing out -/
theorem Cxt.nox {M : Md} {X : Cx} {B : Tb} {k : Nat} (c : Cxt M X B k) : Cxt M X.nox B k :=
  ⟨c.hP, c.hw, c.hK, c.mg, c.hb, c.hN, c.nd, c.calm, c.kind, c.room, c.gu, c.vis, c.loc, c.pl, c.gl, c.cs, fun _ => PassesOwn.never, c.lam, c.fr⟩
end
section
variable [Wtp] [Tbl]
/-! ## sorted(xs, key=len) of a list of tuples -/
def lenK : PyData → Nat
  | .tuple xs => xs.length
  | _ => 0
def isTpD : PyData → Bool
  | .tuple _ => true
  | _ => false
def slnF : PyData → Option PyData
  | .list xs => if xs.all isTpD = true ∧ xs.length ≤ 1000000 then some (.list (xs.mergeSort fun a b => decide (lenK a ≤ lenK b))) else none
  | _ => none
def eSln (co : En → Sto → Rs Wv) : En → Sto → Rs Wv := fun env st => (co env st).bind fun w st1 => look1 w st1 fun d => ret1 (slnF d) st1
@[simp] theorem x_sln (env : En) (st : Sto) (co : En → Sto → Rs Wv) : eSln co env st = (co env st).bind fun w st1 => look1 w st1 fun d => ret1 (slnF d) st1 := rfl
/-! ## list(d.items()) of a dict with tuple keys -/
def pairsD (es : List (PyData × PyData)) : List PyData := es.map fun e => .tuple [e.1, e.2]
def litF : PyData → Option PyData
  | .dict es => if kindT es = true ∧ es.length ≤ 1000000 then some (.list (pairsD es)) else none
  | _ => none
def eLit (co : En → Sto → Rs Wv) : En → Sto → Rs Wv := fun env st => (co env st).bind fun w st1 => look1 w st1 fun d => ret1 (litF d) st1
@[simp] theorem x_lit (env : En) (st : Sto) (co : En → Sto → Rs Wv) : eLit co env st = (co env st).bind fun w st1 => look1 w st1 fun d => ret1 (litF d) st1 := rfl
/-! ## 1 << j, i >> j, i & 1 -/
end
section
variable [Wtp] [Tbl]
/-! ## raise of a class without own __init__ -/
def bmV : List Value := [.type "ValueError", .type "Exception", .type "BaseException", .type "object"]
structure XcOk (M : Md) (x : Str) (C : Addr) : Prop where
  mg : M.mg x = some (.ref C)
  exc : PySem.W.excIn M.K C bmV "ValueError.__new__" = true
  keep : PySem.W.keepIn M.K (.ref C) = true
  sub : PySem.W.subIn M.K (.ref C) (.type "BaseException") = some true
  ty : PySem.W.typeIn M.K (.ref C) = some (.type "type")
def sRaise (x : Str) : En → Sto → SR := fun _ st => .ex ⟨x, []⟩ st
@[simp] theorem x_raise (x : Str) (env : En) (st : Sto) : sRaise x env st = .ex ⟨x, []⟩ st := rfl
section
variable {M : Md} {X : Cx} {B : Tb} {k : Nat} {pos p p2 p3 apos : Pos}
theorem ds_raise (c : Cxt M X B k) (j : Nat) {x m : Str} {jj : Nat} {C : Addr} (hg : B.gs[j]? = some x) (E : XcOk M x C) (hdb : (x == ("__debug__" : Str)) = false := by decide) :
    DS X (.Raise (some (.Call (.Name x p) [.Constant (.str m) jj p2] [] p3)) none pos) (sRaise x) := by
  refine ⟨fun W tk => PS.imp (ps_raise c.calm tk (pmk_own PySem.F.excBase_ValueError (by rw [c.hK]; exact E.exc) (by rw [c.mg]; exact E.mg) (by rw [c.hK]; exact E.keep) (raises_own (by rw [c.hK]; exact E.sub) (by rw [c.hK]; exact E.ty)) (c.gl j x hg) hdb)) fun D σ H ⟨m, env, st, S, R, hp⟩ => ?_⟩
  exact hp (.ref C) none σ H m .refl S ⟨⟨C, by rw [c.mg]; exact E.mg, rfl⟩, .inl ⟨rfl, rfl⟩⟩
/-! ## a def called where an exception is handled -/
structure Cxh (M : Md) (X : Cx) (B : Tb) (k : Nat) (ea : Addr) (x : Str) (C : Addr) (d : Option Addr) : Prop where
  hP : X.prog = M.P
  hw : X.w = M.w
  hK : X.K = M.K
  mg : X.mg = M.mg
  hb : X.base = M.base
  hN : X.N = B.N
  nd : B.N.Nodup
  roomH : L2H.RoomH k X.A
  vis : ∀ i ∈ B.us, ∀ x, B.N[i]? = some x → Vis X.env.scope x
  loc : ∀ i ∈ B.ls, ∀ x, B.N[i]? = some x → Loc X.env.scope x ∧ (X.fn x = true ∨ X.env.scope.names.lookup x = some .local)
  gl : ∀ (j : Nat) x, B.gs[j]? = some x → Gl X x
  cn : M.mg x = some (.ref C)
  pin : ∃ oe, (ea, oe) ∈ X.pn ∧ Zc (.ref C) d oe ∧ ∃ vs, oe.data = .fields vs
section
variable {ea C : Addr} {xn : Str} {d : Option Addr}
theorem deh_var (c : Cxh M X B k ea xn C d) (i : Nat) {x : Str} {pos : Pos} (h : B.N[i]? = some x) (hu : i ∈ B.us) (hd : (x == ("__debug__" : Str)) = false := by decide) (hc : (x == ("__classdict__" : Str)) = false := by decide) : DE X (.Name x pos) (eVar i) := by
  refine ⟨fun W tk => ⟨fun pins s σ H Q I ⟨m, env, st, S, R, hp⟩ => (pe_var (i := i) (by rw [c.hN]; exact h) (c.vis i hu x h) hd hc).run pins s σ H Q I ?_⟩⟩
  unfold eVar at hp
  split at hp
  · rename_i w e
    obtain ⟨v, hv, r⟩ := R.at' i w e
    exact ⟨v, hv, hp v H m .refl S r⟩
  · exact hp.elim
theorem dsh_set (c : Cxh M X B k ea xn C d) (i : Nat) {x : Str} {e : Expr} {ce : En → Sto → Rs Wv} {pos' : Pos} (hi : B.N[i]? = some x) (hl : i ∈ B.ls) (he : DE X e ce) (hs : swapsWith e (some (.Name x pos')) pos.line X.env = pure false := by rfl) : DS X (.Assign [.Name x pos'] e pos) (sSet i ce) := by
  obtain ⟨l1, l2⟩ := c.loc i hl x hi
  refine ⟨fun W tk => PS.imp (ps_set (by rw [c.hN]; exact c.nd) (by rw [c.hN]; exact hi) l1 (he.pe W tk) hs l2) fun D σ H ⟨m, env, st, S, R, hp⟩ => ?_⟩
  exact te_sb (f := fun env w st1 => .nx (env.set i (some w)) st1) S R hp fun w st1 v H1 m1 f1 S1 R1 r1 q => q _ H1 m1 f1 S1 (R1.set i r1)
/-- what the class must say (HandS.ExcIs) and its dict -/
def rIsX (K : Frg) (D a : Addr) (d : Option Addr) : List V → Hp → VK → Prop := fun xs H Q => ∃ (c : V) (cv : Value) (b : Bool), xs = [.ref a, c] ∧ (∀ u, RelV c u → u = cv) ∧ PySem.W.kitOne K (.ref D) cv = some b ∧ (∀ dd, d = some dd → ∃ fs, H dd = some (.xd fs)) ∧ Q (.bl b) H
theorem inst_at {pins : List (Addr × Obj)} {σ : L2.St} {H : Hp} {s : Shared} {oe : Obj} (I : Inv X pins σ H s) (hp : (ea, oe) ∈ X.pn) (hz : Zc (.ref C) d oe) (hf : ∃ vs, oe.data = .fields vs) (hx : ∀ dd, d = some dd → ∃ fs, H dd = some (.xd fs)) : ∃ od, PySem.W.InstAt s.heap ea oe C od := by
  obtain ⟨hget, _⟩ := I.pin (ea, oe) (List.mem_append.mpr (.inl hp))
  obtain ⟨vs, hv⟩ := hf
  have no : PySem.W.notCls oe = true := by unfold PySem.W.notCls; rw [hv] <;> rfl
  cases d with
  | none => exact ⟨none, hget, hz.1, no, by rw [hz.2]; trivial⟩
  | some dd =>
    obtain ⟨fs, ea'⟩ := hx dd rfl
    have hx : ObjOk X.prog X.w H s.heap dd (.xd fs) := I.hok dd _ ea'
    obtain ⟨mA, hns, hr⟩ := hx
    obtain ⟨od, ho, hl⟩ := lookIn_ns hns
    exact ⟨some od, hget, hz.1, no, by rw [hz.2]; exact ho⟩
theorem call_isX {oe : Obj} (T : ExcC X.K C) (hp : (ea, oe) ∈ X.pn) (hz : Zc (.ref C) d oe) (hf : ∃ vs, oe.data = .fields vs) : CallR X (.builtin "isinstance") (rIsX X.K C ea d) := by
  intro pins s σ H xs us Q I r h
  obtain ⟨c, cv, b, rfl, hcv, e, hx, q⟩ := h
  cases r with
  | cons rx rr =>
    cases rr with
    | cons rt rr =>
      cases rr
      cases rx
      have ec := hcv _ rt
      subst ec
      obtain ⟨od, J⟩ := inst_at I hp hz hf hx
      refine PySem.W.kia_one (PySem.W.kitx_exc ?_ T.hg T.hk T.hs T.ha T.hn T.ht T.hm) I.kIn J e (fun z => nomatch z) fun tk => ⟨.bl b, H, I.kept (t' := tk) fun _ _ z => z, rfl, q⟩
      obtain ⟨cd, h1, _⟩ := PySem.W.any_some T.hd
      rw [h1]; rfl
/-- isinstance(e, c) -/
def xHas (ea : Addr) (xn : Str) (d : Option Addr) (w : Wv) : Bool := match w with
  | .x a c p => decide (a = ea ∧ c = xn ∧ p.map (·.1) = d)
  | _ => false
def eIsx (ea : Addr) (xn : Str) (d : Option Addr) (b : Bool) (i : Nat) : En → Sto → Rs Wv := fun env st => match env[i]? with
  | some (some w) => if xHas ea xn d w = true then .ok (.d (.bool b)) st else .no
  | _ => .no
theorem xhas_of {K : Frg} {H : Hp} {m : Mp} {n : Nat} {v : V} {w : Wv} (h : xHas ea xn d w = true) (r : RW K H m n v w) : v = .ref ea ∧ ∃ p : Option (Addr × List (Str × PyData)), w = .x ea xn p ∧ p.map (·.1) = d ∧ ∀ q, p = some q → XdAt K H m n q.1 q.2 := by
  unfold xHas at h
  split at h
  · rename_i a c p
    obtain ⟨rfl, rfl, h3⟩ := of_decide_eq_true h
    exact ⟨r.1, p, rfl, h3, r.2⟩
  · cases h
theorem dict_of {K : Frg} {H : Hp} {m : Mp} {n : Nat} {p : Option (Addr × List (Str × PyData))} (h1 : p.map (·.1) = d) (h2 : ∀ q, p = some q → XdAt K H m n q.1 q.2) : ∀ dd, d = some dd → ∃ fs, H dd = some (.xd fs) := fun dd e => by
  subst h1
  cases p with
  | none => cases e
  | some q =>
    cases e
    obtain ⟨fs, h, _⟩ := h2 q rfl
    exact ⟨fs, h⟩
theorem isx_go (c : Cxh M X B k ea xn C d) {i : Nat} {b : Bool} {cv : Value} {c1 : V} {σ : L2.St} {H : Hp} {Q : VK} {W : WX} (hcv : ∀ u, RelV c1 u → u = cv) (e : PySem.W.kitOne M.K (.ref C) cv = some b) (h : tE X W (eIsx ea xn d b i) σ H Q) :
    tCB (rIsX X.K C ea d) (tCons (tVar i) (tCons (tC c1) tNil)) σ H Q := by
  obtain ⟨m, env, st, S, R, hp⟩ := h
  unfold eIsx at hp
  split at hp
  · rename_i w ew
    split at hp
    · rename_i hx
      obtain ⟨v, hv, r⟩ := R.at' i w ew
      obtain ⟨rfl, p, rfl, h1, h2⟩ := xhas_of hx r
      exact ⟨_, hv, c1, cv, b, rfl, hcv, by rw [c.hK]; exact e, dict_of h1 h2, hp (.bl b) H m .refl S (.bl b)⟩
    · exact hp.elim
  · exact hp.elim
theorem deh_isg (c : Cxh M X B k ea xn C d) (T : ExcC M.K C) (i j jj : Nat) {x y : Str} {C2 : Addr} {b : Bool} {p4 p5 : Pos} (h : B.N[i]? = some x) (hu : i ∈ B.us) (hi : B.gs[jj]? = some ("isinstance" : Str)) (hm : M.mg "isinstance" = none) (hg : B.gs[j]? = some y) (hy : M.mg y = some (.ref C2)) (e : PySem.W.kitOne M.K (.ref C) (.ref C2) = some b)
    (hd : (x == ("__debug__" : Str)) = false := by decide) (hc : (x == ("__classdict__" : Str)) = false := by decide) (hd2 : (y == ("__debug__" : Str)) = false := by decide)
    (he : starEach [.Name x p, .Name y p2] X.env = (false, eval (.Name x p) X.env) :: starEach [.Name y p2] X.env := by rfl) (hpl : (backTo pos (starEach [.Name y p2] X.env)).any (·.1) = false := by rfl) :
    DE X (.Call (.Name "isinstance" p4) [.Name x p, .Name y p2] [] pos) (eIsx ea xn d b i) := by
  obtain ⟨oe, hp, hz, hf⟩ := c.pin
  refine ⟨fun W tk => PE.imp (pe_callB (call_isX (by rw [c.hK]; exact T) hp hz hf) (c.gl jj _ hi) (by rw [c.mg]; exact hm) (by decide +kernel) (pa_cons (pe_var (i := i) (by rw [c.hN]; exact h) (c.vis i hu x h) hd hc) (pa_cons (pe_glob (v := .ref C2) (c.gl j y hg) (by rw [c.mg]; exact hy) rfl hd2) pa_nil)) (by decide) (by decide) he hpl) fun σ H Q => isx_go c (fun u hu => hu) e⟩
theorem deh_isb (c : Cxh M X B k ea xn C d) (T : ExcC M.K C) (i j jj : Nat) {x y : Str} {ty : String} {b : Bool} {p4 p5 : Pos} (h : B.N[i]? = some x) (hu : i ∈ B.us) (hi : B.gs[jj]? = some ("isinstance" : Str)) (hm : M.mg "isinstance" = none) (hg : B.gs[j]? = some y) (hy : M.mg y = none) (hv : bootBuiltins y = some (.type ty)) (e : PySem.W.kitOne M.K (.ref C) (.type ty) = some b)
    (hd : (x == ("__debug__" : Str)) = false := by decide) (hc : (x == ("__classdict__" : Str)) = false := by decide) (hd2 : (y == ("__debug__" : Str)) = false := by decide) (hn : y ≠ "__name__" := by decide)
    (he : starEach [.Name x p, .Name y p2] X.env = (false, eval (.Name x p) X.env) :: starEach [.Name y p2] X.env := by rfl) (hpl : (backTo pos (starEach [.Name y p2] X.env)).any (·.1) = false := by rfl) :
    DE X (.Call (.Name "isinstance" p4) [.Name x p, .Name y p2] [] pos) (eIsx ea xn d b i) := by
  obtain ⟨oe, hp, hz, hf⟩ := c.pin
  refine ⟨fun W tk => PE.imp (pe_callB (call_isX (by rw [c.hK]; exact T) hp hz hf) (c.gl jj _ hi) (by rw [c.mg]; exact hm) (by decide +kernel) (pa_cons (pe_var (i := i) (by rw [c.hN]; exact h) (c.vis i hu x h) hd hc) (pa_cons (pe_bltn (v := .ty ty) (c.gl j y hg) (by rw [c.mg]; exact hy) hv rfl hn hd2) pa_nil)) (by decide) (by decide) he hpl) fun σ H Q => isx_go c (fun u hu => hu) e⟩
/-- e.f -/
def eXf (ea : Addr) (xn : Str) (d : Option Addr) (f : Str) (i : Nat) : En → Sto → Rs Wv := fun env st => match env[i]? with
  | some (some (.x a c (some (dd, es)))) => if a = ea ∧ c = xn ∧ some dd = d then match es.lookup f with
    | some y => .ok (.d y) st
    | none => .no
    else .no
  | _ => .no
theorem xd_get {K : Frg} {H : Hp} {Z : Addr → Prop} {f : Str} {y : PyData} : ∀ {fs : List (Str × V)} {es : List (Str × PyData)}, fs.map (·.1) = es.map (·.1) → RpA K H Z (fs.map (·.2)) (es.map (·.2)) → es.lookup f = some y → ∃ v, fs.lookup f = some v ∧ Rp K H Z v y
  | [], [], _, _, e => by cases e
  | [], _ :: _, h, _, _ => by cases h
  | _ :: _, [], h, _, _ => by cases h
  | (a, v) :: fs, (a2, d2) :: es, h, r, e => by
    simp only [List.map_cons, List.cons.injEq] at h
    obtain ⟨rfl, h⟩ := h
    cases r with
    | cons r1 r2 =>
      rw [List.lookup_cons] at e ⊢
      split at e
      · cases e
        exact ⟨v, rfl, r1⟩
      · exact xd_get h r2 e
theorem deh_xf (c : Cxh M X B k ea xn C d) (T : XfC M.K C) (i : Nat) {x f : Str} (hno : PySem.W.findIn M.K (.ref C) f = some none) (h : B.N[i]? = some x) (hu : i ∈ B.us) (hd : (x == ("__debug__" : Str)) = false := by decide) (hc : (x == ("__classdict__" : Str)) = false := by decide)
    (hb : attributeBase (.Name x p) f X.env (eval (.Name x p) X.env) = eval (.Name x p) X.env := by rfl) : DE X (.Attribute (.Name x p) f pos) (eXf ea xn d f i) := by
  obtain ⟨oe, hp, hz, ovs, hd3⟩ := c.pin
  refine ⟨fun W tk => ⟨fun pins s σ H Q I ⟨m, env, st, S, R, hq⟩ => ?_⟩⟩
  unfold eXf at hq
  split at hq
  · rename_i a cc dd es ew
    split at hq
    · rename_i hcond
      obtain ⟨rfl, rfl, hdd⟩ := hcond
      subst hdd
      split at hq
      · rename_i y ey
        obtain ⟨v, hv, r⟩ := R.at' i _ ew
        obtain ⟨rv, rx⟩ := r
        subst rv
        obtain ⟨fs, hxd, hn, hra, hoff⟩ := rx _ rfl
        obtain ⟨vf, hl, rf⟩ := xd_get hn hra ey
        refine attr_of hb (thn ((pe_var (i := i) (by rw [c.hN]; exact h) (c.vis i hu x h) hd hc).run pins s σ H (fun v1 H1 => v1 = .ref a ∧ H1 = H) I ⟨_, hv, rfl, rfl⟩) fun u s1 hh => ?_)
        obtain ⟨v1, H1, I1, r1, rfl, rfl⟩ := hh
        obtain rfl : u = Value.ref a := r1
        obtain ⟨ha, _⟩ := I1.pin (a, oe) (List.mem_append.mpr (.inl hp))
        have hx : ObjOk X.prog X.w H1 s1.heap dd (.xd fs) := I1.hok dd _ hxd
        obtain ⟨mA, hns, hr⟩ := hx
        obtain ⟨od, ho, hlk⟩ := lookIn_ns hns
        obtain ⟨u2, hu2, ru⟩ := RelO.some_of (v := vf) (o := mA f) (by rw [← hl]; exact hr f)
        have J : PySem.W.InstAt s1.heap a oe C (some od) := ⟨ha, hz.1, by unfold PySem.W.notCls; rw [hd3] <;> rfl, by rw [hz.2]; exact ho⟩
        have TT : XfC X.K C := by rw [c.hK]; exact T
        have hno' : PySem.W.findIn X.K (.ref C) f = some none := by rw [c.hK]; exact hno
        exact HandSPX.exc_get I1.kIn J TT.ga TT.gg TT.exC (PySem.W.findObj_own TT.hdC hno' rfl (by rw [hlk, hu2])) (handed_of ru) ⟨vf, H1, I1.tok _, ru, hq vf H1 m .refl S rf⟩
      · exact hq.elim
    · exact hq.elim
  · exact hq.elim
end
end
end
section
variable [Wtp] [Tbl]
section
variable {M : Md} {X : Cx} {B : Tb} {k : Nat} {pos p p2 p3 apos : Pos} {ea C : Addr} {xn : Str} {d : Option Addr}
/-- isinstance(e, (c, ..)) -/
def rIsXT (K : Frg) (D a : Addr) (d : Option Addr) (tys : List String) : List V → Hp → VK → Prop := fun xs H Q => ∃ (tp : Addr) (b : Bool), xs = [.ref a, .ref tp] ∧ H tp = some (.tup (tys.map V.ty)) ∧ PySem.W.kitAny K (.ref D) (tys.map Value.type) = some b ∧ (∀ dd, d = some dd → ∃ fs, H dd = some (.xd fs)) ∧ Q (.bl b) H
theorem vals_tys : ∀ {tys : List String} {us : List Value}, Vals (tys.map V.ty) us → us = tys.map Value.type
  | [], _, h => by cases h; rfl
  | t :: ts, _, h => by
    rw [List.map_cons] at h
    cases h with
    | cons h1 h2 => rw [vals_tys h2, show _ = Value.type t from h1]; rfl
theorem call_isXT {oe : Obj} {tys : List String} (T : ExcC X.K C) (hp : (ea, oe) ∈ X.pn) (hz : Zc (.ref C) d oe) (hf : ∃ vs, oe.data = .fields vs) : CallR X (.builtin "isinstance") (rIsXT X.K C ea d tys) := by
  intro pins s σ H xs us Q I r h
  obtain ⟨tp, b, rfl, ht, e, hx, q⟩ := h
  cases r with
  | cons rx rr =>
    cases rr with
    | cons rt rr =>
      cases rr
      cases rx
      cases rt
      obtain ⟨od, J⟩ := inst_at I hp hz hf hx
      obtain ⟨its, rv, ⟨⟨cls, dd, data, sl⟩, ho, hc, n, hd⟩, _⟩ := I.tuple (.inl (.inl ht))
      simp only at hc hd
      subst hc hd
      have ei := vals_tys rv
      refine PySem.W.kia_tup (its := its) (PySem.W.kitx_exc ?_ T.hg T.hk T.hs T.ha T.hn T.ht T.hm) I.kIn J ho (by rw [ei]; exact e) (fun z => nomatch z) fun tk => ⟨.bl b, H, I.kept (t' := tk) fun _ _ z => z, rfl, q⟩
      obtain ⟨cd, h1, _⟩ := PySem.W.any_some T.hd
      rw [h1]; rfl
theorem deh_ist (c : Cxh M X B k ea xn C d) (T : ExcC M.K C) (i jj : Nat) {x : Str} {t1 t2 t3 t4 : Str} {y1 y2 y3 y4 : String} {b : Bool} {j1 j2 j3 j4 kt : Nat} {p4 p5 p6 p7 p8 p9 : Pos} (h : B.N[i]? = some x) (hu : i ∈ B.us) (hi : B.gs[jj]? = some ("isinstance" : Str)) (hm : M.mg "isinstance" = none)
    (g1 : B.gs[j1]? = some t1) (g2 : B.gs[j2]? = some t2) (g3 : B.gs[j3]? = some t3) (g4 : B.gs[j4]? = some t4) (m1 : M.mg t1 = none) (m2 : M.mg t2 = none) (m3 : M.mg t3 = none) (m4 : M.mg t4 = none)
    (b1 : bootBuiltins t1 = some (.type y1)) (b2 : bootBuiltins t2 = some (.type y2)) (b3 : bootBuiltins t3 = some (.type y3)) (b4 : bootBuiltins t4 = some (.type y4)) (n1 : t1 ≠ "__name__" ∧ (t1 == ("__debug__" : Str)) = false) (n2 : t2 ≠ "__name__" ∧ (t2 == ("__debug__" : Str)) = false) (n3 : t3 ≠ "__name__" ∧ (t3 == ("__debug__" : Str)) = false) (n4 : t4 ≠ "__name__" ∧ (t4 == ("__debug__" : Str)) = false)
    (e : PySem.W.kitAny M.K (.ref C) ([y1, y2, y3, y4].map Value.type) = some b)
    (hd : (x == ("__debug__" : Str)) = false := by decide) (hc : (x == ("__classdict__" : Str)) = false := by decide)
    (he : starEach [.Name x p, .Tuple [.Name t1 p5, .Name t2 p6, .Name t3 p7, .Name t4 p8] kt p9] X.env = (false, eval (.Name x p) X.env) :: starEach [.Tuple [.Name t1 p5, .Name t2 p6, .Name t3 p7, .Name t4 p8] kt p9] X.env := by rfl) (hpl : (backTo pos (starEach [.Tuple [.Name t1 p5, .Name t2 p6, .Name t3 p7, .Name t4 p8] kt p9] X.env)).any (·.1) = false := by rfl) :
    DE X (.Call (.Name "isinstance" p4) [.Name x p, .Tuple [.Name t1 p5, .Name t2 p6, .Name t3 p7, .Name t4 p8] kt p9] [] pos) (eIsx ea xn d b i) := by
  obtain ⟨oe, hp, hz, hf⟩ := c.pin
  have P : ∀ {t : Str} {y : String} {j : Nat} {q : Pos}, B.gs[j]? = some t → M.mg t = none → bootBuiltins t = some (.type y) → t ≠ "__name__" ∧ (t == ("__debug__" : Str)) = false → PE X (.Name t q) (tC (.ty y)) := fun {t y j q} g m b n => pe_bltn (c.gl j t g) (by rw [c.mg]; exact m) b rfl n.1 n.2
  refine ⟨fun W tk => PE.imp (pe_callB (call_isXT (tys := [y1, y2, y3, y4]) (by rw [c.hK]; exact T) hp hz hf) (c.gl jj _ hi) (by rw [c.mg]; exact hm) (by decide +kernel) (pa_cons (pe_var (i := i) (by rw [c.hN]; exact h) (c.vis i hu x h) hd hc) (pa_cons (pe_tup (pa_cons (P g1 m1 b1 n1) (pa_cons (P g2 m2 b2 n2) (pa_cons (P g3 m3 b3 n3) (pa_cons (P g4 m4 b4 n4) pa_nil))))) pa_nil)) (by decide) (by decide) he hpl) fun σ H Q ⟨m, env, st, S, R, hp⟩ => ?_⟩
  unfold eIsx at hp
  split at hp
  · rename_i w ew
    split at hp
    · rename_i hx
      obtain ⟨v, hv, r⟩ := R.at' i w ew
      obtain ⟨rfl, pp, rfl, h1, h2⟩ := xhas_of hx r
      refine ⟨_, hv, ⟨by show 4 ≤ sizeLine; rw [sizeLine_eq]; omega, fun q hn => ?_⟩⟩
      have g := grow_upd (o := .tup ([y1, y2, y3, y4].map V.ty)) hn
      refine ⟨q, b, rfl, upd_same, by rw [c.hK]; exact e, fun dd ed => ?_, hp (.bl b) _ m (.same g) (S.grow g) (.bl b)⟩
      obtain ⟨fs, hfs⟩ := dict_of h1 h2 dd ed
      exact ⟨fs, g _ _ hfs⟩
    · exact hp.elim
  · exact hp.elim
/-! ## l.index(b) of bools -/
def posB (b : Bool) : List Bool → Option Nat
  | [] => none
  | x :: r => if x = b then some 0 else (posB b r).map (· + 1)
def idxD : PyData → List PyData → Option PyData
  | .list xs, [.bool b] => match boolsOf xs with
    | some bs => (posB b bs).map fun j => .int (j : Nat)
    | none => none
  | _, _ => none
theorem posB_at {b : Bool} : ∀ {bs : List Bool} {j : Nat}, posB b bs = some j → bs[j]? = some b ∧ ∀ m z, m < j → bs[m]? = some z → z ≠ b
  | [], _, h => by cases h
  | x :: r, j, h => by
    unfold posB at h
    split at h
    · cases h
      exact ⟨by simp [*], fun m z hm => absurd hm (Nat.not_lt_zero m)⟩
    · rename_i hx
      cases e : posB b r with
      | none => rw [e] at h; cases h
      | some i =>
        rw [e] at h
        cases h
        obtain ⟨h1, h2⟩ := posB_at e
        refine ⟨h1, fun m z hm hz => ?_⟩
        cases m with
        | zero => simp at hz; subst hz; exact hx
        | succ m => exact h2 m z (Nat.lt_of_succ_lt_succ (show m + 1 < i + 1 from hm)) (by simpa using hz)
theorem bools_rp {K : Frg} {H : Hp} {Z : Addr → Prop} : ∀ {xs : List PyData} {vs : List V} {bs : List Bool}, boolsOf xs = some bs → RpA K H Z vs xs → vs = bs.map V.bl := by
  intro xs
  induction xs with
  | nil => intro vs bs e r; cases e; cases r; rfl
  | cons x xs ih =>
    intro vs bs e r
    cases r with
    | cons r1 r2 =>
      cases x with
      | bool b =>
        unfold boolsOf at e
        cases q : boolsOf xs with
        | none => rw [q] at e; cases e
        | some cs =>
          rw [q] at e
          cases e
          cases r1
          rw [ih q r2]; rfl
      | _ => cases e
theorem m_index : MtR X "list.index" (rMd X.K idxD) := by
  intro pins s σ H x xs v us Q I rx rxs ⟨Z, d, ds, r, hz, hd, hds, hf, ho⟩
  unfold idxD at hf
  split at hf
  · rename_i ys b
    split at hf
    · rename_i bs hbs
      cases e : posB b bs with
      | none => rw [e] at hf; cases hf
      | some j =>
        rw [e] at hf
        cases hf
        obtain ⟨a, vs, rfl, h1, h2⟩ := hd.lst
        obtain ⟨z, rfl, h'⟩ := rts1 hds
        have ez := h'.bl
        subst ez
        have ev := bools_rp hbs h2
        subst ev
        obtain ⟨p1, p2⟩ := posB_at e
        refine mt_index pins s σ H _ _ v us Q I rx rxs ⟨a, bs.map V.bl, .bl b, j, .bl b, rfl, rfl, h1.sq, rfl, by rw [List.all_map]; simp [Function.comp_def, flatV], by rw [List.getElem?_map, p1]; rfl, by cases b <;> rfl, fun m z' hm hz' => ?_, rout_here ho (.int _)⟩
        rw [List.getElem?_map] at hz'
        cases q : bs[m]? with
        | none => rw [q] at hz'; cases hz'
        | some zb =>
          rw [q] at hz'
          cases hz'
          have := p2 m zb hm q
          cases zb <;> cases b <;> first | rfl | exact absurd rfl this
    · cases hf
  · cases hf
theorem deh_index {o e : Expr} {es : List Expr} {co : En → Sto → Rs Wv} {cs : En → Sto → Rs (List Wv)} (ho : DE X o co) (ha : DA X (e :: es) cs)
    (hbase : attributeBase o "index" X.env (eval o X.env) = eval o X.env := by rfl)
    (hfew : ((backTo pos (starEach (e :: es) X.env)).all (fun x => !x.1) && (backToKw pos (keywordEach [] X.env)).all (fun x => x.1.isSome)
      && decide ((e :: es).length + ([] : List Keyword).length + (if ([] : List Keyword).isEmpty then 0 else 1) < 30)) = true := by rfl)
    (hline : (apos.endLine == pos.line) = true := by rfl) (hs : starEach (e :: es) X.env = (false, eval e X.env) :: starEach es X.env := by rfl) (hplain : (backTo pos (starEach es X.env)).any (·.1) = false := by rfl) :
    DE X (.Call (.Attribute o "index" apos) (e :: es) [] pos) (eMd idxD co cs) :=
  ⟨fun W tk => PE.imp (pe_bm PySem.F.plainAttrs_list PySem.F.slot_list_index PySem.F.type_list_index m_index (ho.pe W tk) (ha.pa W tk) hbase hfew hline hs hplain) fun σ H Q => te_md idxD⟩
theorem deh_count (hr : L2H.RoomH k X.A) {o e : Expr} {es : List Expr} {co : En → Sto → Rs Wv} {cs : En → Sto → Rs (List Wv)} (ho : DE X o co) (ha : DA X (e :: es) cs)
    (hbase : attributeBase o "count" X.env (eval o X.env) = eval o X.env := by rfl)
    (hfew : ((backTo pos (starEach (e :: es) X.env)).all (fun x => !x.1) && (backToKw pos (keywordEach [] X.env)).all (fun x => x.1.isSome)
      && decide ((e :: es).length + ([] : List Keyword).length + (if ([] : List Keyword).isEmpty then 0 else 1) < 30)) = true := by rfl)
    (hline : (apos.endLine == pos.line) = true := by rfl) (hs : starEach (e :: es) X.env = (false, eval e X.env) :: starEach es X.env := by rfl) (hplain : (backTo pos (starEach es X.env)).any (·.1) = false := by rfl) :
    DE X (.Call (.Attribute o "count" apos) (e :: es) [] pos) (eMd cntD co cs) :=
  ⟨fun W tk => PE.imp (pe_bm PySem.F.plainAttrs_list PySem.F.slot_list_count PySem.F.type_list_count (m_count hr) (ho.pe W tk) (ha.pa W tk) hbase hfew hline hs hplain) fun σ H Q => te_md cntD⟩
end
end
section
variable [Wtp] [Tbl]
/-! ## the call of a def on a handled exception -/
theorem fnx_of {M : Md} {B : Tb} {k : Nat} {f : Addr} {name qual : Str} {params : Arguments} {body : List Stmt} {scope : Scope} {dV kV doc pm cdv ct oc : Value} {an od : Option Addr} {osl : Array (Option Value)} {a0 : Str} {cb : En → Sto → SR} {nN : Nat} {ea C : Addr} {xn : Str} {d : Option Addr}
    (hf : M.K.lookup f = some ⟨oc, od, .func (PySem.W.fnOf name qual params body scope dV kV doc pm an cdv ct), osl⟩) (hcode : PySem.W.codeIn M.K cdv qual = true) (SC : FnScope B.N [a0] scope) (hT : fnT B scope = true) (hnN : B.N.length = nN)
    (hb : ∀ X : Cx, Cxh M X B k ea xn C d → DB X body cb) (hcn : M.mg xn = some (.ref C))
    {A : Around} {outer : List Env} {s : Shared} {H : Hp} {args : Args} {us : List Value} {m : Mp} {st : Sto} {oe : Obj} {p : Option (Addr × List (Str × PyData))} {Q : VK}
    (room : L2H.RoomH (k + 1) A) (hpin : L2H.PinOk outer H s (ea, oe)) (hz : Zc (.ref C) d oe) (hfl : ∃ vs, oe.data = .fields vs) (e0 : Env0 M.P M.w M.K M.mg M.base A outer s H) (bound : BindsTo s (PySem.W.fnOf name qual params body scope dV kV doc pm an cdv ct) args ([a0].zip us)) (rv : Vals [.ref ea] us) (S : Sim M.K H m st)
    (hx : ∀ q, p = some q → XdAt M.K H m st.length q.1 q.2)
    (hp : (mkF 1 nN cb [.x ea xn p] st).post (fun w st' => ∀ v H' m', Fol m st.length H m' st'.length H' → Sim M.K H' m' st' → RW M.K H' m' st'.length v w → Q v H') (fun _ _ => False)) :
    codeAny (model M.P M.w) A (.call (.ref f) args) (CR (L2.CX M.P M.w) outer M.P M.w H s Q fun _ _ _ => False) s := by
  have inK : M.K.In s.heap := e0.mod.kin.keeps fun b o e => (e0.bs b o e).1
  have noLim : s.heap.NoLimit := e0.mod.nolimit.keeps fun b o e => (e0.bs b o e).1
  have kinds : ∀ y ∈ [a0].zip us, scope.names.lookup y.1 = some .local ∨ (scope.names.lookup y.1 = some .cell ∧ ((cellsFrom (s.heap.objs.size + 1) scope.names []).lookup y.1).isSome = true) := by
    rintro ⟨y, v⟩ hy
    have hy' := SC.par y (List.of_mem_zip hy).1
    exact hy'.imp id fun q => ⟨q, PySem.W.cellsFrom_some _ _ _ (.inl q)⟩
  refine codeAny_call_function room.depth (inK _ _ hf) rfl SC.co SC.gen rfl (PySem.W.codeRec_of inK hcode) (bound _ _ _ _ (wpAny_newFunctionEnv_cells SC.kind kinds fun env henv s1 x => ?_))
  subst henv
  refine ⟨noLim.keeps x.toInCall.keep, codeAny_func ?_⟩
  generalize hX : L2H.cxH (L2.CX M.P M.w) M.P M.w M.K M.mg M.base B.N qual scope f cdv A outer s H (fun _ _ _ => False) (ea, oe) = X
  have hI : Inv X [] (start B.N [.ref ea]) H s1 := by rw [← hX]; exact L2H.inv_startH SC hpin e0 rfl rv x
  unfold fnT at hT
  simp only [Bool.and_eq_true, List.all_eq_true, decide_eq_true_eq] at hT
  obtain ⟨t1, t2, t3, t4, t5, t6⟩ := hT
  have hC : Cxh M X B k ea xn C d := by
    subst hX
    refine ⟨rfl, rfl, rfl, rfl, rfl, rfl, SC.nd, room.deeper _, fun i hi x hx => ?_, fun i hi x hx => ?_, fun j x hx => kdG_gl (t4 x (List.mem_of_getElem? hx)), hcn, oe, List.mem_cons_self, hz, hfl⟩
    · have q := t1 i hi
      rw [hx] at q
      exact kdV_vis q
    · have q := t2 i hi
      rw [hx] at q
      exact ⟨kdL_loc q, .inl rfl⟩
  have tk : Takes X (fun c d _ H' => False) := by subst hX; exact takes_of rfl rfl rfl rfl
  have hR : EnvR X.K H m st.length ([some (.x ea xn p)] ++ List.replicate (nN - 1) none) (start B.N [.ref ea]) := by
    refine ⟨?_, fun i w hw => ?_⟩
    · unfold L2.start; simp [hnN]
    · cases i with
      | zero =>
        simp at hw
        subst hw
        refine ⟨.ref ea, by unfold L2.start; simp, rfl, fun q hq => by subst hX; exact hx q hq⟩
      | succ i =>
        rw [List.getElem?_append_right (by simp)] at hw
        have := List.mem_of_getElem? hw
        simp at this
  have hK : X.K = M.K := hC.hK
  have run := ((hb X hC).pss _ tk).run [] s1 (start B.N [.ref ea]) H { nx := fun _ H' => Q .non H', rt := fun v H' => ∃ as, ∀ os, Q v (fzH H' as os) } hI
  unfold mkF at hp
  rw [if_pos (show [Wv.x ea xn p].length = 1 from rfl)] at hp
  have hp2 := SR.post_end hp
  have fin : ∀ {σ' : L2.St} {H' : Hp} {v : V} {u : Value} {s' : Shared}, Inv X [] σ' H' s' → RelV v u → Q v H' → CE outer M.P M.w H s Q u s' := fun {σ' H' v u s'} J rv q => by
    subst hX
    exact ⟨v, H', J.os, J.bare, J.base, J.hok, rv, q⟩
  have run2 := run ⟨m, _, st, by rw [hK]; exact S, hR, SR.post_mono hp2 (fun env st' q σ' H' m' f S' _ => ?_) (fun p st' q v H' m' f S' r => ?_) fun e st' q c d σ' H' m' f S' r => q⟩
  · subst hX
    refine wpAny_mono run2 (fun fl s' hs => ?_) fun e s' hs => hs
    cases fl with
    | ret u => obtain ⟨v, σ', H', J, rv, as, q⟩ := hs; obtain ⟨os, J2⟩ := freezeAll J as; exact fin J2 rv (q os)
    | next => obtain ⟨σ', H', J, q⟩ := hs; exact fin (v := V.non) (u := Value.none) J rfl q
    | brk => obtain ⟨_, _, _, q⟩ := hs; exact q.elim
    | cont => obtain ⟨_, _, _, q⟩ := hs; exact q.elim
  · have tl : (st'.take st.length).length = st.length := by rw [List.length_take]; have := f.le; omega
    rw [hK] at S'
    exact q .non H' m' (by rw [tl]; exact f.back) (S'.take f.le) .non
  · have tl : (st'.take st.length).length = st.length := by rw [List.length_take]; have := f.le; omega
    rw [hK] at S' r
    have plain : Q v H' → ∃ as, ∀ os, Q v (fzH H' as os) := fun z => ⟨[], fun os => by rw [fz_nil]; exact z⟩
    unfold endR at q
    split at q
    · exact plain (q _ H' m' (by rw [tl]; exact f.back) (S'.take f.le) (by rw [tl]; exact Rp.mv r (.le f.le)))
    · exact q.elim
    · rename_i i
      split at q
      · rename_i hi
        exact plain (q _ H' m' (by rw [tl]; exact f.back) (S'.take f.le) (by rw [tl]; exact ⟨hi, r.2⟩))
      · rename_i hi
        split at q
        · rename_i o eo
          have tl2 : (st'.take st.length ++ [o]).length = st.length + 1 := by simp [tl]
          exact plain (q _ H' (mup m' st.length (m'.ix i)) (by rw [tl2]; exact f.keep1 (by omega) r.1) (S'.keep1 (by omega) eo) (by rw [tl2]; exact ⟨Nat.lt_succ_self _, by rw [mup_new]; exact r.2⟩))
        · exact q.elim
    · rename_i w
      split at q
      · rename_i x ex
        have hA : AsNew m' st.length st'.length (newA st.length m' w) := newA_new (fun i e => by subst e; exact r.1)
        exact ⟨newA st.length m' w, fun os => q _ _ m' (by rw [tl]; exact (f.fz hA).back) (S'.fz f.le hA) (by rw [tl]; exact rw_frz S' f.le r ex (newA_all ex))⟩
      · exact q.elim
    · rename_i ws
      split at q
      · rename_i xs ex
        obtain ⟨a, us', rfl, h1, h2⟩ := r
        have hA : AsNew m' st.length st'.length (ws.flatMap (newA st.length m')) := newAs_new h2
        exact ⟨ws.flatMap (newA st.length m'), fun os => q _ _ m' (by rw [tl]; exact (f.fz hA).back) (S'.fz f.le hA) (by rw [tl]; exact .tup (.inl (fz_same h1 (fun _ z => nomatch z) (fun _ z => nomatch z))) (rws_frz S' f.le h2 ex fun a ha => by
          obtain ⟨w, hw, hb⟩ := List.mem_flatMap.mp ha
          obtain ⟨x, ex2⟩ := frzA_mem ex w hw
          exact List.mem_flatMap.mpr ⟨w, hw, newA_all ex2 a hb⟩))⟩
      · exact q.elim
end
section
variable [Wtp] [Tbl]
open LamX
/-! ## the def on handled exceptions -/
structure FlFn (M : Md) (fl : Str) (k nN : Nat) (cb : Addr → Str → Option Addr → En → Sto → SR) (ok : Str → Addr → Prop) : Prop where
  at' : ∃ (f : Addr) (fd : FuncData) (a0 : Str), M.mg fl = some (.ref f) ∧ PySem.W.keepIn M.K (.ref f) = true ∧ Binds M.K fd [a0] [] ∧
    ∀ (ea C : Addr) (xn : Str) (d : Option Addr), M.mg xn = some (.ref C) → ok xn C → ∀ (A : Around) (outer : List Env) (s : Shared) (H : Hp) (args : Args) (us : List Value) (m : Mp) (st : Sto) (oe : Obj) (p : Option (Addr × List (Str × PyData))) (Q : VK),
      L2H.RoomH (k + 1) A → L2H.PinOk outer H s (ea, oe) → Zc (.ref C) d oe → (∃ vs, oe.data = .fields vs) → Env0 M.P M.w M.K M.mg M.base A outer s H → BindsTo s fd args ([a0].zip us) → Vals [.ref ea] us → Sim M.K H m st → (∀ q, p = some q → XdAt M.K H m st.length q.1 q.2) →
      (mkF 1 nN (cb ea xn d) [.x ea xn p] st).post (fun w st' => ∀ v H' m', Fol m st.length H m' st'.length H' → Sim M.K H' m' st' → RW M.K H' m' st'.length v w → Q v H') (fun _ _ => False) →
      codeAny (model M.P M.w) A (.call (.ref f) args) (CR (L2.CX M.P M.w) outer M.P M.w H s Q fun _ _ _ => False) s
theorem flfn_of {M : Md} {fl a0 : Str} {sf : Stmt} {B : Tb} {k nN : Nat} {cb : Addr → Str → Option Addr → En → Sto → SR} {ok : Str → Addr → Prop} (T : TopFn M fl sf [a0]) (SC : FnScope B.N [a0] (defScope sf)) (hT : fnT B (defScope sf) = true) (hnN : B.N.length = nN)
    (hb : ∀ (ea C : Addr) (xn : Str) (d : Option Addr), ok xn C → ∀ X : Cx, Cxh M X B k ea xn C d → DB X (defBody sf) (cb ea xn d)) : FlFn M fl k nN cb ok := by
  obtain ⟨f, od, an, sl, oc, kV, dc, pm, cd, ct, h1, h2, h3, h4, h5⟩ := T.at'
  exact ⟨f, _, a0, h1, h4, h5, fun ea C xn d hcn hok A outer s H args us m st oe p Q room pin hz hf e0 bd rv S hx hp => fnx_of h2 h3 SC hT hnN (fun X c => hb ea C xn d hok X c) hcn room pin hz hf e0 bd rv S hx hp⟩
/-- what the suite asks -/
def flP (M : Md) (nN : Nat) (cb : Addr → Str → Option Addr → En → Sto → SR) (ok : Str → Addr → Prop) : Value → Option Addr → Addr → Hp → VK → Prop := fun cls d ea H Q =>
  ∃ (m : Mp) (st : Sto) (xn : Str) (C : Addr) (p : Option (Addr × List (Str × PyData))), cls = .ref C ∧ M.mg xn = some (.ref C) ∧ ok xn C ∧ Sim M.K H m st ∧ (∀ q, p = some q → XdAt M.K H m st.length q.1 q.2) ∧
    (mkF 1 nN (cb ea xn d) [.x ea xn p] st).post (fun w st' => ∀ v H' m', Fol m st.length H m' st'.length H' → Sim M.K H' m' st' → RW M.K H' m' st'.length v w → Q v H') (fun _ _ => False)
section
variable {P : Program} {w : World} {K : Frg} {mg : Str → Option Value} {base : Heap} {X : Cx} {fl n : Str} {k nN i : Nat} {cb : Addr → Str → Option Addr → En → Sto → SR} {ok : Str → Addr → Prop}
theorem pe_flags {M : Md} {a : Addr} {oe : Obj} {cls : Value} {d : Option Addr} {pn : List (Addr × Obj)} {q1 q2 pos : Pos} (e1 : X.prog = M.P) (e2 : X.w = M.w) (e3 : X.K = M.K) (e4 : X.mg = M.mg) (e5 : X.base = M.base) (F : FlFn M fl k nN cb ok) (hr : L2H.RoomH (k + 1) X.A) (hg : Gl X fl) (hz : Zc cls d oe) (hf : ∃ vs, oe.data = .fields vs)
    (hi : X.N[i]? = some n) (hv : Vis X.env.scope n) (hd : (n == ("__debug__" : Str)) = false) (hcd : (n == ("__classdict__" : Str)) = false) (hdb : (fl == ("__debug__" : Str)) = false)
    (he : starEach [.Name n q2] X.env = (false, eval (.Name n q2) X.env) :: starEach [] X.env := by rfl) (hpl : (backTo pos (starEach [] X.env)).any (·.1) = false := by rfl) :
    PE (X.suite a ((a, oe) :: pn)) (.Call (.Name fl q1) [.Name n q2] [] pos) (fun σ H Q => (σ.length = X.N.length → σ[i]? = some (some (.ref a))) ∧ flP M nN cb ok cls d a H Q) := by
  obtain ⟨P, w, K, mg, base⟩ := M
  obtain ⟨rfl, rfl, rfl, rfl, rfl⟩ : X.prog = P ∧ X.w = w ∧ X.K = K ∧ X.mg = mg ∧ X.base = base := ⟨e1, e2, e3, e4, e5⟩
  refine ⟨fun pins s σ H Q I h => ?_⟩
  obtain ⟨hs, m, st, xn, C, p, hcls, hcn, hok, S, hx, hp⟩ := h
  subst hcls
  obtain ⟨f, fd, a0, g1, g2, g3, run⟩ := F.at'
  refine wpAny_Call_Name_kw (ld_glob I hg g1 ?_ hdb)
  have hsl := hs I.len
  refine PySem.W.callWith_K (h₀ := X.base) I.ok.mod.kin g2 (thn ((pa_cons (pe_var (X := X.suite a ((a, oe) :: pn)) (pos := q2) (i := i) hi hv hd hcd) pa_nil he).run pos pins s σ H (fun vs H1 => vs = [.ref a] ∧ H1 = H) I ⟨.ref a, hsl, rfl, rfl⟩) fun us s1 hh => ?_) he hpl
  obtain ⟨vs, H1, I1, rv, rfl, rfl⟩ := hh
  refine ⟨I1.kIn, ?_⟩
  have hl : us.length = 1 := by rw [← rv.length]; rfl
  have bd := g3 s1 us I1.kIn (by rw [List.append_nil]; exact hl)
  rw [List.append_nil] at bd
  have P1 := I1.pin (a, oe) (List.mem_append_left _ List.mem_cons_self)
  have hpin : L2H.PinOk X.stack H1 s1 (a, oe) := ⟨P1.1, P1.2.1, fun hm => (List.mem_cons.mp (I1.stkSub a hm)).elim P1.2.2.1 P1.2.2.2.1, P1.2.2.2.2⟩
  refine wpAny_call (codeAny_mono (run a C xn d hcn hok (X.A.mark (some (.ref a))) X.stack s1 H1 ⟨us, []⟩ us m st oe p Q ⟨hr.dp, hr.un⟩ hpin hz hf I1.env0 bd rv S hx hp) fun r s2 hq => ?_)
  cases r with
  | error e => obtain ⟨_, _, _, _, _, _, _, _, _, _, _, _, z⟩ := hq; exact z.elim
  | ok fw =>
    cases fw with
    | ret u => exact I1.after hq
    | next => exact False.elim hq
    | brk => exact False.elim hq
    | cont => exact False.elim hq
end
end
section
variable [Wtp] [Tbl]
open LamX
/-! ## a lambda handed to the def that asks it -/
section
variable {K : Frg} {H H' : Hp} {m : Mp} {n : Nat}
theorem Fol.ext (h : ExtN H H') : Fol m n H m n H' :=
  ⟨fun a xs q => h a _ q (fun _ z => nomatch z), fun a o u q => h a _ q (fun _ z => nomatch z), fun a o nt q _ => h a o q nt, fun _ _ => rfl, fun i a b => absurd b (by omega), Nat.le_refl _, fun a ⟨o, e, nt⟩ => ⟨o, h a o e nt, nt⟩, fun _ _ => Iff.rfl⟩
theorem Sim.ext {st : Sto} (S : Sim K H m st) (h : ExtN H H') (T : LamX.Tabs Tbl.T H') : Sim K H' m st := by
  have f : Fol m st.length H m st.length H' := .ext h
  refine ⟨fun i o e => ?_, S.inj, fun a z => f.dom a (S.ff a z), S.fi, T⟩
  have q := S.ob i o e
  cases o with
  | lst xs => obtain ⟨vs, h1, h2⟩ := q; exact ⟨vs, h _ _ h1 nt_lst, h2.mv f.kp⟩
  | dct kvs => obtain ⟨vs, h1, h2⟩ := q; exact ⟨vs, h _ _ h1 nt_dK, RpK.kp f.kp _ _ h2⟩
  | dtt kvs => obtain ⟨vs, h1, h2⟩ := q; exact ⟨vs, h _ _ h1 nt_dT, RpT.kp f.kp _ _ h2⟩
  | lkd es => exact Rp.mv q f.kp
  | lkl xs => exact FzL.mv q f.kp
end
/-- what the def makes of what is told -/
def toldT (T : Option Str) (Q : VK) : VK := fun v H => match T with
  | none => Q v H
  | some z => 2 ≤ sizeLine ∧ ∀ p, H p = none → Q (.ref p) (upd H p (.tup [.str z, v]))
def TTsaid (M : Md) (T : Option Str) (nN : Nat) (cb : Addr → Str → Option Addr → En → Sto → SR) (ok : Str → Addr → Prop) (CS : Addr) : (XK → Hp → VK → Prop) → Hp → VK → Prop := fun tl H Q =>
  tl (fun cls d H' => PySem.W.exmOne M.K cls (.ref CS) = some true ∧ ∀ a, H' a = none → flP M nN cb ok cls d a H' Q) H (toldT T Q)
section
variable {X : Cx} {M : Md} {x a e q CSn fl : Str} {sg : Scope} {g CS : Addr} {cdg : Value} {k nN : Nat} {cb : Addr → Str → Option Addr → En → Sto → SR} {ok : Str → Addr → Prop} {p1 p2 p3 p4 p5 p6 p7 p8 p9 p10 : Pos}
theorem said_givesT {T : Str} {j kt : Nat} {q1 q2 : Pos} (e1 : X.prog = M.P) (e2 : X.w = M.w) (e3 : X.K = M.K) (e4 : X.mg = M.mg) (e5 : X.base = M.base) (F : FlFn M fl k nN cb ok) (hr : L2H.RoomH (k + 2) X.A) (SC : FnScope [a, e] [a] sg) (hle : sg.names.lookup e = some .local) (hce : sg.names.lookup CSn = some .globalImplicit) (hfl : sg.names.lookup fl = some .globalImplicit) (hmc : M.mg CSn = some (.ref CS))
    (d1 : (CSn == ("__debug__" : Str)) = false) (d2 : (e == ("__debug__" : Str)) = false) (d3 : (e == ("__classdict__" : Str)) = false) (d4 : (fl == ("__debug__" : Str)) = false) :
    GivesTo X [a, e] x sg g cdg [.Try [.Return (some (.Tuple [.Constant (.str T) j q1, .Call (.Name a p1) [] [] p2] kt q2)) p3] [.ExceptHandler (some (.Name CSn p4)) (some e) [.Return (some (.Call (.Name fl p5) [.Name e p6] [] p7)) p8] p9] [] [] p10] a q (TTsaid M (some T) nN cb ok CS) := by
  intro f c' s H Q tl act hc h
  refine ⟨_, pss_one (ps_try_as (X := (cxOf C8.CX0 X.prog X.w X.K X.mg X.base [a, e] x sg g cdg X.A X.stack s H C8.E0).nox) (c := .ref CS) (i := 1)
      (tb := fun W D σ H => ∃ Ech : XK, (∀ cls d σ' H', Ech cls d H' → W cls d σ' H') ∧ σ[0]? = some (some (.ref f)) ∧ H c' = some (CodeO c' q) ∧ tl Ech H (toldT (some T) D.rt))
      rfl rfl SC.nd rfl hle ⟨hce, d1, .inl (by rw [← e4] at hmc; exact hmc)⟩ L2.takes0 (fun W pn xe tk _ => ?_) (fun a' oe cls d pn hz hf => pss_one (ps_ret (pe_flags (i := 1) e1 e2 e3 e4 e5 F ⟨?_, ?_⟩ hfl hz hf rfl (.inl hle) d2 d3 d4)))), ?_⟩
  · refine ⟨fun pins s' σ H' D I h' => ?_⟩
    obtain ⟨Ech, hW, h1, h2, h3⟩ := h'
    have hp := pa_cons (pe_str (x := T) (j := j) (pos := q1)) (pa_cons (act W pn xe Ech p1 p2 tk hW) pa_nil)
    refine (pss_one (ps_ret (pos := p3) (pe_tup (x1 := kt) (pos := q2) hp))).run pins s' σ H' D I ?_
    exact ⟨h1, h2, h3⟩
  · have := hr.dp; show X.A.depth + 1 + 3 * (k + 1) + 5 < _; omega
  · have := hr.un; show X.A.units + 3 + 16 * (k + 1) + 200 < _; omega
  · refine ⟨_, fun cls d σ' H' ⟨b1, b2⟩ => ⟨true, by rw [← e3] at b1; exact b1, fun _ a' ha => ⟨fun hl => ?_, b2 a' ha⟩, fun z => Bool.noConfusion z⟩, rfl, hc, h⟩
    rw [List.length_set] at hl
    exact List.getElem?_set_self (by rw [hl]; exact Nat.lt_succ_self 1)
end
end
section
variable [Wtp] [Tbl]
open LamX
/-- x(lambda: body), x told as above -/
def toldD (T : Option Str) (x : PyData) : PyData := match T with
  | none => x
  | some z => .tuple [.str z, x]
@[simp] theorem toldD_none (x : PyData) : toldD none x = x := rfl
@[simp] theorem toldD_some (z : Str) (x : PyData) : toldD (some z) x = .tuple [.str z, x] := rfl
def saidR (T : Option Str) (fl : Xc → Option PyData) (n : Nat) : Rs Wv → Rs Wv
  | .ok w st' => match frzL n st' w with
    | some x => .ok (.d (toldD T x)) (st'.take n)
    | none => .no
  | .ex e st' => match fl e with
    | some y => .ok (.d y) (st'.take n)
    | none => .no
  | .no => .no
def eSaid (T : Option Str) (fl : Xc → Option PyData) (c : En → Sto → Rs Wv) : En → Sto → Rs Wv := fun env st => saidR T fl st.length (c env st)
@[simp] theorem saidR_d (T : Option Str) (fl : Xc → Option PyData) (n : Nat) (x : PyData) (st : Sto) : saidR T fl n (.ok (.d x) st) = .ok (.d (toldD T x)) (st.take n) := rfl
theorem saidR_ex (T : Option Str) (fl : Xc → Option PyData) (n : Nat) {e : Xc} {y : PyData} (h : fl e = some y) (st : Sto) : saidR T fl n (.ex e st) = .ok (.d y) (st.take n) := by unfold saidR; simp [h]
structure SaidT (M : Md) (x : Str) (kf nN : Nat) (T : Option Str) (fl : Xc → Option PyData) (cb : Addr → Str → Option Addr → En → Sto → SR) (ok : Str → Addr → Prop) : Prop where
  at' : ∃ (g : Addr) (od an : Option Addr) (sl : Array (Option Value)) (oc kV dc pm cd ct : Value) (pg : Arguments) (bg : List Stmt) (sg : Scope) (a e : Str) (CS : Addr),
    M.mg x = some (.ref g) ∧ M.K.lookup g = some ⟨oc, od, .func (PySem.W.fnOf x x pg bg sg .none kV dc pm an cd ct), sl⟩ ∧ PySem.W.codeIn M.K cd x = true ∧ PySem.W.keepIn M.K (.ref g) = true ∧ Binds M.K (PySem.W.fnOf x x pg bg sg .none kV dc pm an cd ct) [a] [] ∧
    FnScope [a, e] [a] sg ∧ ((a == ("__debug__" : Str)) = false ∧ (a == ("__classdict__" : Str)) = false) ∧ (∀ (X : Cx) (q : Str), X.prog = M.P → X.w = M.w → X.K = M.K → X.mg = M.mg → X.base = M.base → L2H.RoomH (kf + 2) X.A → GivesTo X [a, e] x sg g cd bg a q (TTsaid M T nN cb ok CS)) ∧
    ∀ (xn : Str) (C : Addr), M.mg xn = some (.ref C) → ok xn C → PySem.W.exmOne M.K (.ref C) (.ref CS) = some true
  fl' : ∀ (e : Xc) (y : PyData), fl e = some y → ∃ C, M.mg e.name = some (.ref C) ∧ ok e.name C ∧ ∀ (ea : Addr) (p : Option (Addr × List (Str × PyData))) (st : Sto), (e.fs = [] ∧ p = none ∨ ∃ dd, p = some (dd, e.fs)) → mkF 1 nN (cb ea e.name (p.map (·.1))) [.x ea e.name p] st = .ok (.d y) st
def Tb.lam (B : Tb) (us : List Nat) (gs : List Str) : Tb := ⟨B.N, us, [], [], gs, [], false, false, none⟩
def lamB (B : Tb) (us : List Nat) (gs : List Str) (sc : Scope) : Bool :=
  decide (sc.kind = .function) && (!sc.isCoroutine && (!sc.isGenerator && ((sc.names.all fun y => !decide (y.2 = .local) && (!decide (y.2 = .cell) && (!decide (y.2 = .free) || decide (y.1 ∈ B.cs)))) &&
    ((us.all fun i => match B.N[i]? with | some x => kdV (sc.names.lookup x) | none => true) && (gs.all fun x => kdG (sc.names.lookup x))))))
section
variable {M : Md} {X : Cx} {B : Tb} {k kf kb nN : Nat} {x q : Str} {T : Option Str} {fl : Xc → Option PyData} {cb : Addr → Str → Option Addr → En → Sto → SR} {ok : Str → Addr → Prop} {scope : Scope} {params : Arguments} {body : Expr} {cl : En → Sto → Rs Wv} {lpos p pos : Pos}
theorem lam_cxt (c : Cxt M X B k) (us : List Nat) (gs : List Str) (h : lamB B us gs scope = true) {A : Around} {outer : List Env} {s : Shared} {H : Hp} {E : XK} {f c' : Addr} (hr : Room kb (A.deeper (lamEnv X scope s.heap.objs.size f c'))) : Cxt M (lamCx X A outer s H E scope f c') (B.lam us gs) kb := by
  unfold lamB at h
  simp only [Bool.and_eq_true, List.all_eq_true] at h
  obtain ⟨h1, h2, h3, h4, h5, h6⟩ := h
  refine ⟨c.hP, c.hw, c.hK, c.mg, c.hb, c.hN, c.nd, rfl, fun z => (Bool.false_ne_true z).elim, hr, fun z => (Bool.false_ne_true z).elim, fun i hi x hx => ?_, fun i hi => absurd hi List.not_mem_nil, fun i hi => absurd hi List.not_mem_nil, fun j x hx => ?_, fun x hx => absurd hx List.not_mem_nil, fun z => (Bool.false_ne_true z).elim, (fun q z => nomatch (show (none : Option Str) = some q from z)), fun z => (Bool.false_ne_true z).elim⟩
  · have q := h5 i hi
    rw [show B.N[i]? = some x from hx] at q
    exact kdV_vis q
  · exact kdG_gl (h6 x (List.mem_of_getElem? hx))
theorem lam_s (c : Cxt M X B k) {us : List Nat} {gs : List Str} (h : lamB B us gs scope = true) : LamS X.env.scope scope := by
  unfold lamB at h
  simp only [Bool.and_eq_true, List.all_eq_true, Bool.not_eq_true', decide_eq_true_eq, decide_eq_false_iff_not, Bool.or_eq_true] at h
  obtain ⟨h1, h2, h3, h4, h5, h6⟩ := h
  refine ⟨h1, h2, h3, fun y hy => ⟨(h4 y hy).1, (h4 y hy).2.1⟩, fun y hy e => ?_⟩
  rcases (h4 y hy).2.2 with z | z
  · exact absurd e z
  · exact c.cs _ z
theorem de_said (c : Cxt M X B k) (S : SaidT M x kf nN T fl cb ok) (j : Nat) (hg : B.gs[j]? = some x) (hlq : B.lq = some q) (us : List Nat) (gs : List Str) (hL : lamB B us gs scope = true) (hk : kf + 2 ≤ k) (hk2 : kb + 2 ≤ k) (hb : ∀ X' : Cx, Cxt M X' (B.lam us gs) kb → DE X' body cl)
    (hdef : defaultsOf params X.env = ([], []) := by rfl) (hbind : ∀ (q : Str) (cl : List (Str × Addr)) (pm cv ctv : Value), bindArgs (PySem.W.kla_fn "<lambda>" q params body scope cl pm cv ctv) ⟨[], []⟩ = pure [] := by intros; rfl) (hdb : (x == ("__debug__" : Str)) = false := by decide) :
    DE X (.Call (.Name x p) [.Lambda params body scope lpos] [] pos) (eSaid T fl cl) := by
  obtain ⟨P, w, K, mg, base⟩ := M
  obtain ⟨rfl, rfl, rfl, rfl, rfl⟩ : X.prog = P ∧ X.w = w ∧ X.K = K ∧ X.mg = mg ∧ X.base = base := ⟨c.hP, c.hw, c.hK, c.mg, c.hb⟩
  obtain ⟨g, od, an, sl, oc, kV, dc, pm, cd, ct, pg, bg, sg, a, e, CS, s1, s2, s3, s4, s5, s6, s7, s8, s9⟩ := S.at'
  obtain ⟨hq, cc, PP, l1, l2, l3, l4⟩ := c.lam q hlq
  have va : Vis sg a := by
    rcases s6.par a List.mem_cons_self with z | z
    · exact .inl z
    · exact .inr (.inl z)
  refine ⟨fun W tk => PE.imp (pe_lamcall (T := Tbl.T) (TT := TTsaid ⟨X.prog, X.w, X.K, X.mg, X.base⟩ T nN cb ok CS) (t := fun E => tE X (fun cls d _ H => E cls d H) cl) (k := kb) (c.gl j x hg) s1 s4 s2 s3 s5 s6 rfl va (s8 X _ rfl rfl rfl rfl rfl (L2H.roomH_of (c.room.mono hk))) l4 l1 (by rw [hq]; exact l2) (by rw [hq]; exact l3) (c.room.mono hk2) (lam_s c hL) hdef hbind
    (fun A outer s H E f c' hr => (hb _ (lam_cxt c us gs hL hr)).pe _ (takes_of rfl rfl rfl rfl)) hdb s7.1 s7.2) fun σ H Q ⟨m, env, st, S1, R, hp⟩ => ?_⟩
  refine ⟨S1.tb, fun H1 eN T1 => ?_⟩
  have f0 : Fol m st.length H m st.length H1 := .ext eN
  refine ⟨m, env, st, S1.ext eN T1, R.mv f0, ?_⟩
  unfold eSaid at hp
  cases ec : cl env st with
  | no => rw [ec] at hp; exact hp.elim
  | ok w st' =>
    rw [ec] at hp
    unfold saidR at hp
    simp only at hp
    split at hp
    · rename_i y ey
      intro v H' m' f S' r
      have tl : (st'.take st.length).length = st.length := by rw [List.length_take]; have := f.le; omega
      have ry := rl_frz S' f.le r ey
      have f1 : Fol m st.length H m' (st'.take st.length).length H' := by rw [tl]; exact f0.trans f.back
      cases T with
      | none => exact hp v H' m' f1 (S'.take f.le) (by rw [tl]; exact ry)
      | some z =>
        refine ⟨Nat.le_trans (by omega) line_lim, fun p np => ?_⟩
        have g := grow_upd (o := .tup [.str z, v]) np
        refine hp _ _ m' (f1.trans (.same g)) ((S'.take f.le).grow g) ?_
        rw [tl]
        have f2 : Fol m' st.length H' m' st.length (upd H' p (.tup [.str z, v])) := .same g
        exact .tup (.inl upd_same) (.cons (.str z) (.cons (ry.mv f2.kp) .nil))
    · exact hp.elim
  | ex e' st' =>
    rw [ec] at hp
    unfold saidR at hp
    simp only at hp
    split at hp
    · rename_i y ey
      obtain ⟨C, hC, hok, hrun⟩ := S.fl' e' y ey
      intro cls d H' m' f S' r
      have tl : (st'.take st.length).length = st.length := by rw [List.length_take]; have := f.le; omega
      obtain ⟨⟨C2, hC2, rfl⟩, hfld⟩ := r
      have hC2' : X.mg e'.name = some (.ref C2) := hC2
      have hC' : X.mg e'.name = some (.ref C) := hC
      rw [hC'] at hC2'
      obtain rfl : C = C2 := by cases hC2'; rfl
      refine ⟨s9 _ _ hC hok, fun ea na => ?_⟩
      have key : ∀ p : Option (Addr × List (Str × PyData)), p.map (·.1) = d → (e'.fs = [] ∧ p = none ∨ ∃ dd, p = some (dd, e'.fs)) → (∀ q, p = some q → XdAt X.K H' m' (st'.take st.length).length q.1 q.2) → flP ⟨X.prog, X.w, X.K, X.mg, X.base⟩ nN cb ok (.ref C) d ea H' Q := fun p h1 h2 h3 => by
        refine ⟨m', st'.take st.length, e'.name, C, p, rfl, hC, hok, S'.take f.le, h3, ?_⟩
        rw [← h1, hrun ea p _ h2]
        intro v H2 m2 f2 S2 r2
        refine hp v H2 m2 ?_ S2 r2
        rw [tl] at f2 ⊢
        exact (f0.trans f.back).trans f2
      rcases hfld with ⟨z1, z2⟩ | ⟨dd, z1, fs, y1, y2, y3, y4⟩
      · exact key none z2.symm (.inl ⟨z1, rfl⟩) fun q z => nomatch z
      · refine key (some (dd, e'.fs)) z1.symm (.inr ⟨dd, rfl⟩) fun q z => ?_
        cases z
        rw [tl]
        exact ⟨fs, y1, y2, y3.mv (.le f.le), off_le f.le y4⟩
    · exact hp.elim
end
end
section
variable [Wtp] [Tbl]
open LamX
/-! ## facts of the classes that are raised -/
structure XcA (M : Md) (CSn : Str) (ys : List Str) (fl : List (Str × List Str)) (xn : Str) (C : Addr) : Prop where
  mg : M.mg xn = some (.ref C)
  ok : fl.lookup xn = none → XcOk M xn C
  xf : XfC M.K C
  nof : ∀ f ∈ (fl.lookup xn).getD [], PySem.W.findIn M.K (.ref C) f = some none
  exc : ExcC M.K C
  own : ∀ y ∈ ys, ∃ C2, M.mg y = some (.ref C2) ∧ PySem.W.kitOne M.K (.ref C) (.ref C2) = some (decide (xn = y))
  ve : PySem.W.kitOne M.K (.ref C) (.type "ValueError") = some true
  no4 : PySem.W.kitAny M.K (.ref C) (["LookupError", "TypeError", "ArithmeticError", "RuntimeError"].map Value.type) = some false
  sto : ∀ CS, M.mg CSn = some (.ref CS) → PySem.W.exmOne M.K (.ref C) (.ref CS) = some true
def ownB (K : Frg) (C : Addr) (xn y : Str) : Bool := match PySem.W.nsIn K mainGlobals y with
  | some (some (.ref C2)) => PySem.W.kitOne K (.ref C) (.ref C2) == some (decide (xn = y))
  | _ => false
def xcB (K : Frg) (CSn : Str) (ys : List Str) (fl : List (Str × List Str)) (xn : Str) (C : Addr) : Bool :=
  (((fl.lookup xn).getD []).all fun f => decide (PySem.W.findIn K (.ref C) f = some none)) && (
  PySem.W.keepIn K (.ref C) && (PySem.W.subIn K (.ref C) (.type "BaseException") == some true && (PySem.W.typeIn K (.ref C) == some (.type "type") &&
  (decide (PySem.W.findIn K (.ref C) "__getattribute__" = some (some (.builtin "BaseException.__getattribute__"))) && (decide (PySem.W.findIn K (.ref C) "__getattr__" = some none) && (PySem.W.hasDictIn K C &&
  (decide (PySem.W.findIn K (.ref C) "__class__" = some (some (.builtin "object.__class__"))) && (decide (PySem.W.specialIn K (.builtin "object.__class__") "__get__" = some (some (.builtin "getset_descriptor.__get__"))) && (PySem.W.takesIn K (.builtin "object.__class__") == some true &&
  (PySem.W.mroIn K C (.type "object") == some true && (ys.all (ownB K C xn) && (PySem.W.kitOne K (.ref C) (.type "ValueError") == some true && (PySem.W.kitAny K (.ref C) (["LookupError", "TypeError", "ArithmeticError", "RuntimeError"].map Value.type) == some false &&
  (match PySem.W.nsIn K mainGlobals CSn with | some (some (.ref CS)) => PySem.W.exmOne K (.ref C) (.ref CS) == some true | _ => false))))))))))))))
theorem xcA_of {M : Md} {CSn : Str} {ys : List Str} {fl : List (Str × List Str)} {xn : Str} {C : Addr} {h : Heap} (X : M.K.In h) (G : h.Ns mainGlobals M.mg) (a : PySem.W.nsIn M.K mainGlobals xn = some (some (.ref C))) (e : fl.lookup xn = none → PySem.W.excIn M.K C bmV "ValueError.__new__" = true) (b : xcB M.K CSn ys fl xn C = true) : XcA M CSn ys fl xn C := by
  unfold xcB at b
  simp only [Bool.and_eq_true, decide_eq_true_eq, beq_iff_eq] at b
  obtain ⟨b0, b1, b2, b3, b4, b5, b6, b7, b8, b9, b10, b11, b12, b13, b14⟩ := b
  refine ⟨PySem.W.mg_of X G a, fun z => ⟨PySem.W.mg_of X G a, e z, b1, b2, b3⟩, ⟨b4, b5, b2, b6⟩, fun f hf => of_decide_eq_true (List.all_eq_true.mp b0 f hf), ⟨b4, b5, b2, b6, b7, b8, b9, b10⟩, fun y hy => ?_, b12, b13, fun CS hCS => ?_⟩
  · have q := List.all_eq_true.mp b11 y hy
    unfold ownB at q
    split at q
    · rename_i C2 hn
      exact ⟨C2, PySem.W.mg_of X G hn, beq_iff_eq.mp q⟩
    · cases q
  · split at b14
    · rename_i CS2 hn
      have z := PySem.W.mg_of X G hn
      rw [hCS] at z
      cases z
      exact beq_iff_eq.mp b14
    · cases b14
section
variable {M : Md} {X : Cx} {B : Tb} {k : Nat} {pos p p2 p3 p4 p5 apos : Pos} {ea C : Addr} {xn : Str} {d : Option Addr}
theorem deh_isO (c : Cxh M X B k ea xn C d) (T : ExcC M.K C) (i j jj : Nat) {x y : Str} {b : Bool} (h : B.N[i]? = some x) (hu : i ∈ B.us) (hi : B.gs[jj]? = some ("isinstance" : Str)) (hm : M.mg "isinstance" = none) (hg : B.gs[j]? = some y) (o : ∃ C2, M.mg y = some (.ref C2) ∧ PySem.W.kitOne M.K (.ref C) (.ref C2) = some b)
    (hd : (x == ("__debug__" : Str)) = false := by decide) (hc : (x == ("__classdict__" : Str)) = false := by decide) (hd2 : (y == ("__debug__" : Str)) = false := by decide)
    (he : starEach [.Name x p, .Name y p2] X.env = (false, eval (.Name x p) X.env) :: starEach [.Name y p2] X.env := by rfl) (hpl : (backTo pos (starEach [.Name y p2] X.env)).any (·.1) = false := by rfl) :
    DE X (.Call (.Name "isinstance" p4) [.Name x p, .Name y p2] [] pos) (eIsx ea xn d b i) := by
  obtain ⟨C2, h1, h2⟩ := o
  exact deh_isg (p5 := p) c T i j jj h hu hi hm hg h1 h2 hd hc hd2 he hpl
def eNo : En → Sto → Rs Wv := fun _ _ => .no
theorem de_no {e : Expr} : DE X e eNo := ⟨fun W tk => ⟨fun pins s σ H Q I ⟨m, env, st, S, R, hp⟩ => hp.elim⟩⟩
@[simp] theorem x_isx (ea : Addr) (xn : Str) (p : Option (Addr × List (Str × PyData))) (b : Bool) (i : Nat) (env : En) (st : Sto) (h : env[i]? = some (some (.x ea xn p))) : eIsx ea xn (p.map (·.1)) b i env st = .ok (.d (.bool b)) st := by
  unfold eIsx
  rw [h]
  simp [xHas]
end
/-! ## the def that asks, from the top -/
theorem saidT_of {M : Md} {x a e CSn : Str} {sf : Stmt} {kf nN : Nat} {T : Option Str} {fl : Xc → Option PyData} {cb : Addr → Str → Option Addr → En → Sto → SR} {ys : List Str} {fL : List (Str × List Str)} {CS : Addr} (TF : TopFn M x sf [a]) (SC : FnScope [a, e] [a] (defScope sf)) (hv : (a == ("__debug__" : Str)) = false ∧ (a == ("__classdict__" : Str)) = false) (hmc : M.mg CSn = some (.ref CS))
    (hG : ∀ (X : Cx) (g : Addr) (cd : Value) (q : Str), X.prog = M.P → X.w = M.w → X.K = M.K → X.mg = M.mg → X.base = M.base → L2H.RoomH (kf + 2) X.A → GivesTo X [a, e] x (defScope sf) g cd (defBody sf) a q (TTsaid M T nN cb (XcA M CSn ys fL) CS))
    (hfl : ∀ (e : Xc) (y : PyData), fl e = some y → ∃ C, M.mg e.name = some (.ref C) ∧ XcA M CSn ys fL e.name C ∧ ∀ (ea : Addr) (p : Option (Addr × List (Str × PyData))) (st : Sto), (e.fs = [] ∧ p = none ∨ ∃ dd, p = some (dd, e.fs)) → mkF 1 nN (cb ea e.name (p.map (·.1))) [.x ea e.name p] st = .ok (.d y) st) :
    SaidT M x kf nN T fl cb (XcA M CSn ys fL) := by
  obtain ⟨f, od, an, sl, oc, kV, dc, pm, cd, ct, h1, h2, h3, h4, h5⟩ := TF.at'
  exact ⟨⟨f, od, an, sl, oc, kV, dc, pm, cd, ct, _, _, _, a, e, CS, h1, h2, h3, h4, h5, SC, hv, fun X q => hG X f cd q, fun xn C _ hx => hx.sto CS hmc⟩, hfl⟩
/-- the table of one def, from the written part -/
theorem lamT_of {M : Md} {x q : Str} {c P : Addr} {h : Heap} (X : M.K.In h) (G : h.Ns mainGlobals M.mg) (ht : PySem.W.tabIn M.K x = some (c, P)) (hq : (x ++ ".<locals>.") ++ "<lambda>" = q) (hm : (P, q) ∈ Tbl.T) (hu : ∀ p ∈ Tbl.T, p.1 = P → p.2 = q) (TB : TabB M.base M.mg c P) : LamT M x q := by
  refine ⟨hq, c, P, fun f oc od fd sl h1 h2 => ?_, hm, hu, TB⟩
  exact PySem.W.law_code X G ht h1 (X _ _ h2) rfl
theorem ds_raiseO {M : Md} {X : Cx} {B : Tb} {k : Nat} {pos p p2 p3 : Pos} {CSn : Str} {ys : List Str} {fL : List (Str × List Str)} (c : Cxt M X B k) (j : Nat) {x m : Str} {jj : Nat} (hg : B.gs[j]? = some x) (E : ∃ C, XcA M CSn ys fL x C) (hn : fL.lookup x = none := by rfl) (hdb : (x == ("__debug__" : Str)) = false := by decide) :
    DS X (.Raise (some (.Call (.Name x p) [.Constant (.str m) jj p2] [] p3)) none pos) (sRaise x) := by
  obtain ⟨C, hC⟩ := E
  exact ds_raise c j hg (hC.ok hn) hdb
/-! ## an attribute of the exception: a field of its class, or no field -/
def eXfO (fl : List (Str × List Str)) (ea : Addr) (xn : Str) (d : Option Addr) (f : Str) (i : Nat) : En → Sto → Rs Wv := if f ∈ (fl.lookup xn).getD [] then eXf ea xn d f i else eNo
theorem deh_xfO {M : Md} {X : Cx} {B : Tb} {k : Nat} {pos p : Pos} {ea C : Addr} {xn : Str} {d : Option Addr} {CSn : Str} {ys : List Str} {fL : List (Str × List Str)} (c : Cxh M X B k ea xn C d) (E : XcA M CSn ys fL xn C) (i : Nat) {x f : Str} (h : B.N[i]? = some x) (hu : i ∈ B.us) (hd : (x == ("__debug__" : Str)) = false := by decide) (hc : (x == ("__classdict__" : Str)) = false := by decide)
    (hb : attributeBase (.Name x p) f X.env (eval (.Name x p) X.env) = eval (.Name x p) X.env := by rfl) : DE X (.Attribute (.Name x p) f pos) (eXfO fL ea xn d f i) := by
  unfold eXfO
  split
  · rename_i hf
    exact deh_xf c E.xf i (E.nof f hf) h hu hd hc hb
  · exact de_no
@[simp] theorem x_xf (ea dd : Addr) (xn f : Str) (es : List (Str × PyData)) (y : PyData) (i : Nat) (env : En) (st : Sto) (h : env[i]? = some (some (.x ea xn (some (dd, es))))) (hy : es.lookup f = some y) : eXf ea xn (some dd) f i env st = .ok (.d y) st := by
  unfold eXf
  rw [h]
  simp [hy]
/-! ## what is said of the classes: the word, the fields -/
abbrev FlTab := List (Str × Str × List Str)
def flL (l : FlTab) : Xc → Option PyData := fun e => match l.lookup e.name with
  | some (w, fns) => if e.fs.map (·.1) = fns.reverse then some (.tuple (.str w :: (e.fs.reverse.map (·.2)))) else none
  | none => none
/-- what the written part must show of one class -/
def FvOk (nN : Nat) (cb : Addr → Str → Option Addr → En → Sto → SR) (x w : Str) (fns : List Str) : Prop :=
  ∀ (ea : Addr) (p : Option (Addr × List (Str × PyData))) (fs : List (Str × PyData)) (st : Sto), fs.map (·.1) = fns.reverse → (fs = [] ∧ p = none ∨ ∃ dd, p = some (dd, fs)) → mkF 1 nN (cb ea x (p.map (·.1))) [.x ea x p] st = .ok (.d (.tuple (.str w :: (fs.reverse.map (·.2))))) st
def FlOk (M : Md) (CSn : Str) (ys : List Str) (fL : List (Str × List Str)) (nN : Nat) (cb : Addr → Str → Option Addr → En → Sto → SR) (l : FlTab) : Prop :=
  ∀ x w fns, l.lookup x = some (w, fns) → (∃ C, XcA M CSn ys fL x C) ∧ FvOk nN cb x w fns
section
variable {M : Md} {CSn : Str} {ys : List Str} {fL : List (Str × List Str)} {nN : Nat} {cb : Addr → Str → Option Addr → En → Sto → SR} {l : FlTab}
theorem flL_nil : FlOk M CSn ys fL nN cb [] := fun x w fns h => nomatch h
theorem flL_cons {x w : Str} {fns : List Str} (h1 : ∃ C, XcA M CSn ys fL x C) (h2 : FvOk nN cb x w fns) (h : FlOk M CSn ys fL nN cb l) : FlOk M CSn ys fL nN cb ((x, w, fns) :: l) := fun y v vs e => by
  rw [List.lookup_cons] at e
  split at e
  · rename_i q
    cases e
    cases eq_of_beq q
    exact ⟨h1, h2⟩
  · exact h y v vs e
theorem fv_0 {x w : Str} (h2 : ∀ (ea : Addr) (p : Option (Addr × List (Str × PyData))) (st : Sto), mkF 1 nN (cb ea x (p.map (·.1))) [.x ea x p] st = .ok (.d (.tuple [.str w])) st) : FvOk nN cb x w [] := fun ea p fs st e _ => by
  cases fs with
  | nil => exact h2 ea p st
  | cons => cases e
/-- the one, two, four fields -/
theorem fv_1 {x w f1 : Str} (h2 : ∀ (ea dd : Addr) (y1 : PyData) (st : Sto), mkF 1 nN (cb ea x (some dd)) [.x ea x (some (dd, [(f1, y1)]))] st = .ok (.d (.tuple [.str w, y1])) st) : FvOk nN cb x w [f1] := fun ea p fs st e hp => by
  rcases fs with _ | ⟨⟨a, y1⟩, _ | ⟨_, _⟩⟩ <;> simp at e
  subst e
  rcases hp with ⟨z, _⟩ | ⟨dd, rfl⟩
  · cases z
  · exact h2 ea dd y1 st
theorem flL_ok (h : FlOk M CSn ys fL nN cb l) : ∀ (e : Xc) (y : PyData), flL l e = some y → ∃ C, M.mg e.name = some (.ref C) ∧ XcA M CSn ys fL e.name C ∧ ∀ (ea : Addr) (p : Option (Addr × List (Str × PyData))) (st : Sto), (e.fs = [] ∧ p = none ∨ ∃ dd, p = some (dd, e.fs)) → mkF 1 nN (cb ea e.name (p.map (·.1))) [.x ea e.name p] st = .ok (.d y) st := fun e y hy => by
  unfold flL at hy
  split at hy
  · rename_i w fns q
    split at hy
    · rename_i hf
      cases hy
      obtain ⟨⟨C, hC⟩, h2⟩ := h _ _ _ q
      exact ⟨C, hC.mg, hC, fun ea p st hp => h2 ea p e.fs st hf hp⟩
    · cases hy
  · cases hy
end
theorem sh_isx (ea : Addr) (xn : Str) (p : Option (Addr × List (Str × PyData))) (b : Bool) (env : En) (st : Sto) : eIsx ea xn (p.map (·.1)) b 0 (some (.x ea xn p) :: env) st = .ok (.d (.bool b)) st := x_isx _ _ _ _ _ _ _ rfl
end
section
variable [Wtp]
/-! ## the law's own call, with tables of code objects -/
theorem law_runT {TT : Tbl} {cs : List (Addr × Addr)} (hTT : ∀ p ∈ TT.T, ∃ c, (c, p.1) ∈ cs) {g : Bool} {P : Program} {w : World} {K : Frg} {mg mb : Str → Option Value} {k : Nat} {fa a : Addr} {fd : FuncData} {x : Str} {mf : List Wv → Sto → Rs Wv} {st9 : Sto} {s : Shared} {us : List Value} {ns : List Int}
    (inK : K.In s.heap) (glob : s.heap.Ns mainGlobals mg) (bns : s.heap.Ns builtinsNs mb) (bok : ∀ x : Str, x ≠ "__name__" → mb x = bootBuiltins x) (nolim : s.heap.NoLimit) (sm : SysM s.heap) (hgen : s.gens = #[])
    (tab0 : ∀ p ∈ cs, s.heap.get? p.2 = some (PySem.W.tabObj #[])) (tabK : ∀ p ∈ cs, K.lookup p.2 = none) (tabC : ∀ p ∈ cs, PySem.W.CodeHd s.heap p.1 p.2)
    (bmod : ∃ (bm : Addr) (ob : Obj), mg "__builtins__" = some (.ref bm) ∧ bm ≠ builtinsNs ∧ s.heap.get? bm = some ob ∧ ob.cls = .type "module" ∧ ob.dict = some builtinsNs ∧ ob.data = .plain)
    (hobj : s.heap.get? a = some { cls := .type "list", data := .seq us.toArray }) (hint : IntsAre us ns) (hlen : ns.length ≤ sizeLine) (room : Room k callerA)
    (F : ∀ base : Heap, K.In base → base.Ns mainGlobals mg → SysM base → (∀ p ∈ cs, LamX.TabB base mg p.1 p.2) → @Fnk _ TT ⟨P, w, K, mg, base⟩ g k fa fd [x] mf) (bind : ∀ (s : Shared) (u : Value), BindsTo s fd ⟨[u], []⟩ [(x, u)])
    (law : mf [.d (.list (ns.map .int))] [] = .ok (.d (.bool true)) st9) :
    codeAny (model P w) callerA (.call (.ref fa) ⟨[.ref a], []⟩) (fun r s' => r = .ok (.ret (.bool true)) ∧ OldK s.heap s'.heap ∧ s'.os = s.os ∧ AllBare s'.gens) s := by
  have rel := vals_ints hint
  have ulen := hint.length
  have nla : ∀ p ∈ cs, p.2 ≠ a := fun p hp z => by
    have q := tab0 p hp
    rw [z, hobj] at q
    exact absurd (congrArg Obj.data (Option.some.inj q)) fun z => nomatch z
  -- what may be tracked: the script, the tables
  have go : ∀ H : Hp, (∀ b u, H b = some u → (b = a ∧ ∃ o, u = .frz o (.lst (ns.map V.int)) ∧ s.heap.get? b = some o) ∨ ((∃ p ∈ cs, p.2 = b) ∧ u = .tbl #[])) → (∀ p ∈ cs, H p.2 = some (.tbl #[])) → LsX K H a (ns.map V.int) → HOk P w H s.heap → (H a ≠ none → K.lookup a = none) →
      codeAny (model P w) callerA (.call (.ref fa) ⟨[.ref a], []⟩) (fun r s' => r = .ok (.ret (.bool true)) ∧ OldK s.heap s'.heap ∧ s'.os = s.os ∧ AllBare s'.gens) s := by
    intro H only isT ls ok away
    have base0 : ∀ {b : Addr} {o : Obj}, s.heap.get? b = some o → H b = none → (hidT s.heap H).get? b = some o := fun e n => hidT_get e n
    have free : ∀ {b : Addr} {o : Obj}, s.heap.get? b = some o → (∀ ys n, o.data ≠ .seq ys n) → o.data ≠ .fields #[] → H b = none := fun {b o} e d1 d2 => by
      cases q : H b with
      | none => rfl
      | some u =>
        rcases only b u q with ⟨rfl, _⟩ | ⟨⟨p, hp, rfl⟩, _⟩
        · rw [hobj] at e
          cases e
          exact absurd rfl (d1 _ _)
        · rw [tab0 p hp] at e
          cases e
          exact absurd rfl d2
    have ns' : ∀ {b : Addr} {m : Str → Option Value}, s.heap.Ns b m → (hidT s.heap H).Ns b m := fun {b m} h => by
      obtain ⟨o, es, ep, e, d, r⟩ := h
      exact ⟨o, es, ep, base0 e (free e (fun ys n z => by rw [d] at z; cases z) fun z => by rw [d] at z; cases z), d, r⟩
    have inB : K.In (hidT s.heap H) := fun b o e => base0 (inK b o e) (by
      cases q : H b with
      | none => rfl
      | some u =>
        rcases only b u q with ⟨rfl, _⟩ | ⟨⟨p, hp, rfl⟩, _⟩
        · rw [away (by rw [q]; exact fun z => nomatch z)] at e
          cases e
        · rw [tabK p hp] at e
          cases e)
    have TB : ∀ p ∈ cs, LamX.TabB (hidT s.heap H) mg p.1 p.2 := fun p hp => by
      have tp := tab0 p hp
      have gP : mainGlobals ≠ p.2 := fun z => by
        obtain ⟨o, es, ep, e, d, _⟩ := glob
        rw [z, tp] at e
        cases e
        cases d
      refine ⟨?_, ?_, gP⟩
      · obtain ⟨o, fs, f1, f2, f3, f4, f5, f6, f7, e1, r1, r2, r3, rest⟩ := tabC p hp
        refine ⟨o, fs, f1, f2, f3, f4, f5, f6, f7, base0 e1 (free e1 (fun ys n z => ?_) fun z => ?_), r1, r2, r3, rest⟩
        · rw [r2] at z; cases z
        · rw [r2] at z
          cases z
          simp at r3
      · obtain ⟨bm, ob, b1, b2, b3, b4, b5, b6⟩ := bmod
        refine ⟨bm, ob, b1, b2, fun z => ?_, fun z => ?_, base0 b3 (free b3 (fun ys n z => ?_) fun z => ?_), b4, b5, b6⟩
        · obtain ⟨o, es, ep, e, d, _⟩ := glob
          rw [z, e] at b3
          cases b3
          rw [b6] at d
          cases d
        · rw [z, tp] at b3
          cases b3
          cases b6
        · rw [b6] at z; cases z
        · rw [b6] at z; cases z
    obtain ⟨mc, lim1, lim2⟩ := nolim
    have hmod : Mod K mg (hidT s.heap H) := ⟨inB, ns' glob, ⟨mb, ns' bns, bok⟩, ⟨mc, ns' lim1, lim2⟩⟩
    have env : Env0 P w K mg (hidT s.heap H) callerA [] s H := ⟨rfl, hmod, fun b o e => of_hidT e, Nat.le_of_eq (hidT_size _ _), trivial, fun b hb => absurd hb List.not_mem_nil, ok, .of_eq hgen⟩
    have S : @Sim _ TT K H ⟨fun _ => a, fun _ => False⟩ [] := ⟨fun i o e => by simp at e, fun i j hi => absurd hi (Nat.not_lt_zero _), fun b z => z.elim, fun i hi => absurd hi (Nat.not_lt_zero _), fun p hp => by
      obtain ⟨c, hc⟩ := hTT p hp
      exact LamX.TabS.nil (isT (c, p.1) hc)⟩
    have items : ∀ l : List Int, RpA K H (Off ⟨fun _ => a, fun _ => False⟩ 0) (l.map V.int) (l.map PyData.int) := fun l => by
      induction l with
      | nil => exact .nil
      | cons i l ih => exact .cons (.int i) ih
    have off : Off ⟨fun _ => a, fun _ => False⟩ 0 a := ⟨fun i hi => absurd hi (Nat.not_lt_zero _), fun z => z⟩
    have arg : RWs K H ⟨fun _ => a, fun _ => False⟩ 0 [.ref a] [.d (.list (ns.map .int))] := .cons (.lst (by
      rcases ls with ⟨h, _⟩ | h | h
      · exact .inl ⟨h, off⟩
      · exact .inr (.inl h)
      · exact .inr (.inr h)) (items ns)) .nil
    refine codeAny_mono ((F _ inB (ns' glob) (let ⟨o, es, ep, e, d⟩ := sm; ⟨o, es, ep, base0 e (free e (fun ys n z => by rw [d] at z; cases z) fun z => by rw [d] at z; cases z), d⟩) TB).run callerA [] s H ⟨[.ref a], []⟩ [.ref a] [.ref a] _ _ [] (fun v _ => v = .bl true) (fun _ _ _ => False) room (fun _ => rfl) env (bind s (.ref a)) (.cons rfl .nil) S arg (by
      rw [law]
      intro v H' m' f S' r
      cases r
      rfl)) fun r s' hr => ?_
    cases r with
    | error e =>
      obtain ⟨_, _, _, _, _, _, _, _, _, _, _, _, z⟩ := hr
      exact z.elim
    | ok fl =>
      cases fl with
      | next => exact hr.elim
      | brk => exact hr.elim
      | cont => exact hr.elim
      | ret u =>
        obtain ⟨v, H', os, bare, un, ok', rv, ev⟩ := hr
        have ev : v = .bl true := ev
        subst ev
        cases (show u = Value.bool true from rv)
        have still : ∀ b o, s.heap.get? b = some o → (∃ p ∈ cs, p.2 = b) ∨ s'.heap.get? b = some o := fun b o e => by
          cases q : H b with
          | none => exact .inr (un.keep b o e q (fun z => absurd z List.not_mem_nil) List.not_mem_nil)
          | some u =>
            rcases only b u q with ⟨rfl, ob, rfl, e1⟩ | ⟨hp, _⟩
            · rw [e] at e1
              cases e1
              exact .inr (ok' _ _ (un.frzs _ _ _ q)).1
            · exact .inl hp
        have more : ∀ p ∈ cs, ∃ ps : Array Value, s'.heap.get? p.2 = some { cls := .none, data := .fields ps } := fun p hp => by
          obtain ⟨ps, z⟩ := un.tbls p.2 #[] (isT p hp)
          exact ⟨_, ok' p.2 _ z⟩
        refine ⟨rfl, ⟨fun b o e => ?_, fun b o e => ?_⟩, os, bare⟩
        · rcases still b o e with ⟨p, hp, rfl⟩ | z
          · obtain ⟨ps, hps⟩ := more p hp
            rw [tab0 p hp] at e
            cases e
            exact .inr (.inl ⟨((tabC p hp).tab (tab0 p hp)).isCodeTable, rfl, #[], ps, rfl, by simpa using hps⟩)
          · exact .inl z
        · rcases still b o e with ⟨p, hp, rfl⟩ | z
          · obtain ⟨ps, hps⟩ := more p hp
            exact ⟨_, hps⟩
          · exact ⟨o, z⟩
  have inT : ∀ b, (b ∈ cs.map (·.2)) ↔ ∃ p ∈ cs, p.2 = b := fun b => List.mem_map
  have anT : ¬ a ∈ cs.map (·.2) := fun z => by
    obtain ⟨p, hp, e⟩ := (inT a).mp z
    exact nla p hp e
  cases hk : K.lookup a with
  | some o =>
    have e := inK a o hk
    rw [hobj] at e
    cases e
    have one : ∀ {b u}, (if b ∈ cs.map (·.2) then some (HO.tbl #[]) else none) = some u → (∃ p ∈ cs, p.2 = b) ∧ u = .tbl #[] := fun {b u} z => by
      split at z
      · rename_i hb
        cases z; exact ⟨(inT b).mp hb, rfl⟩
      · cases z
    refine go (fun b => if b ∈ cs.map (·.2) then some (.tbl #[]) else none) (fun b u z => .inr (one z)) (fun p hp => if_pos ((inT _).mpr ⟨p, hp, rfl⟩)) (.inr (.inr ⟨us.toArray, _, hk, by rw [List.size_toArray, ulen]; exact hlen, by simpa using rel⟩)) (fun b u z => ?_) fun z => absurd (if_neg anT) z
    obtain ⟨⟨p, hp, rfl⟩, rfl⟩ := one z
    exact tab0 p hp
  | none =>
    have one : ∀ {b u}, (if b = a then some (HO.frz { cls := .type "list", data := .seq us.toArray } (.lst (ns.map V.int))) else if b ∈ cs.map (·.2) then some (HO.tbl #[]) else none) = some u → (b = a ∧ u = .frz { cls := .type "list", data := .seq us.toArray } (.lst (ns.map V.int))) ∨ ((∃ p ∈ cs, p.2 = b) ∧ u = .tbl #[]) := fun {b u} z => by
      split at z
      · cases z; exact .inl ⟨by assumption, rfl⟩
      · split at z
        · rename_i hb
          cases z; exact .inr ⟨(inT b).mp hb, rfl⟩
        · cases z
    refine go (fun b => if b = a then some (.frz { cls := .type "list", data := .seq us.toArray } (.lst (ns.map V.int))) else if b ∈ cs.map (·.2) then some (.tbl #[]) else none) (fun b u z => ?_) (fun p hp => ?_) (.inr (.inl ⟨_, if_pos rfl⟩)) (fun b u z => ?_) fun _ => hk
    · rcases one z with ⟨rfl, rfl⟩ | z
      · exact .inl ⟨rfl, _, rfl, hobj⟩
      · exact .inr z
    · show (if p.2 = a then _ else _) = _
      rw [if_neg (nla p hp), if_pos ((inT _).mpr ⟨p, hp, rfl⟩)]
    · rcases one z with ⟨rfl, rfl⟩ | ⟨⟨p, hp, rfl⟩, rfl⟩
      · exact ⟨hobj, by rw [List.length_map]; exact hlen, us, _, rel, hobj⟩
      · exact tab0 p hp
end
section
variable [Wtp] [Tbl]
open LamX
/-! ## raise of a class with fields: its __init__ tells its base's, then keeps the fields -/
structure IniC (K : Frg) (CS : Addr) : Prop where
  rd : PySem.W.readsIn K CS (.type "type") = true
  sp : PySem.W.specialIn K (.ref CS) "__getattribute__" = some (some (.builtin "type.__getattribute__"))
  fc : PySem.W.findCls K (.ref CS) (.type "type") "__init__" = some (.val (.builtin "ValueError.__init__"))
def iniB (K : Frg) (CS : Addr) : Bool := PySem.W.readsIn K CS (.type "type") && (decide (PySem.W.specialIn K (.ref CS) "__getattribute__" = some (some (.builtin "type.__getattribute__"))) &&
  (match PySem.W.findCls K (.ref CS) (.type "type") "__init__" with | some (.val (.builtin n)) => n == "ValueError.__init__" | _ => false))
theorem iniC_of {K : Frg} {CS : Addr} (h : iniB K CS = true) : IniC K CS := by
  unfold iniB at h
  simp only [Bool.and_eq_true, decide_eq_true_eq] at h
  obtain ⟨h1, h2, h3⟩ := h
  refine ⟨h1, h2, ?_⟩
  split at h3
  · rename_i n e
    rw [e, eq_of_beq h3]
  · cases h3
/-- how Base.__init__(self, "..") is evaluated, at the text's places -/
def TellOk (p1 p2 p3 p4 p5 : Pos) (m : Str) (jj : Nat) : Prop := ∀ env : Env, ∃ pl : Sem Bool, eval (.Call (.Attribute (.Name "StoneError" p1) "__init__" p2) [.Name "self" p3, .Constant (.str m) jj p4] [] p5) env = (do
      let ov ← eval (.Name "StoneError" p1) env
      standAt p2.atName
      let (f, first) ← holding [ov] (getMethod ov "__init__" pl)
      callWith p5 f first (backTo p5 (starEach [.Name "self" p3, .Constant (.str m) jj p4] env)) (backToKw p5 (keywordEach [] env)))
/-- what telling the base's __init__ asks: the thing that is being made stands in slot 0 -/
def tTell (K : Frg) : TE := fun σ H Q => ∃ (a C : Addr), σ[0]? = some (some (V.ref a)) ∧ OexC K C ∧ H a = some (exo a C none) ∧ Q .non H
theorem pe_tell {X : Cx} {CS : Addr} {p1 p2 p3 p4 p5 : Pos} {m : Str} {jj : Nat} (hg : Gl X "StoneError") (hm : X.mg "StoneError" = some (.ref CS)) (i : IniC X.K CS) (h0 : X.N[0]? = some ("self" : Str)) (v0 : Vis X.env.scope "self") (hdb : (("StoneError" : Str) == ("__debug__" : Str)) = false) (ok : TellOk p1 p2 p3 p4 p5 m jj) :
    PE X (.Call (.Attribute (.Name "StoneError" p1) "__init__" p2) [.Name "self" p3, .Constant (.str m) jj p4] [] p5) (tTell X.K) := by
  constructor
  rintro pins s σ H Q I ⟨a, C, hs, T, ha, q⟩
  obtain ⟨pl, e⟩ := ok X.env
  have two : PA X [.Name "self" p3, .Constant (.str m) jj p4] (tCons (tVar 0) (tCons (tC (.str m)) tNil)) := pa_cons (pe_var h0 v0 (by decide) (by decide)) (pa_cons pe_str pa_nil)
  have fin : ∀ (us : List Value) (s1 : Shared), (∃ vs H1, Inv X pins σ H1 s1 ∧ Vals vs us ∧ vs = [V.ref a, V.str m] ∧ H1 = H) → wpAny (model X.prog X.w) X.A (call (.builtin "ValueError.__init__") us) (EP X pins σ Q) X.xe s1 := by
    rintro us s1 ⟨vs, H1, I1, r, rfl, rfl⟩
    obtain ⟨u, z, rfl, ru, _⟩ := Vals.two r
    cases ru
    exact oinit_ok T I1 ha (by rw [sizeLine_eq]; exact Nat.le_of_ble_eq_true rfl) fun s2 J => ⟨.non, _, J, rfl, q⟩
  refine PySem.W.methodCall_KW (ld_glob I hg hm (PySem.W.method_cls I.kIn i.sp (PySem.W.cls_value I.kIn i.rd i.fc rfl ?_)) hdb) e
  exact PyProof.Rows.callWith_method1 (thn (two.run p5 pins _ σ H (fun vs H1 => vs = [V.ref a, V.str m] ∧ H1 = H) (I.tok _) ⟨_, hs, rfl, rfl⟩) fin) rfl rfl
/-- what an __init__ of these fields leaves -/
def spI (K : Frg) (C : Addr) (fns : List Str) : Sp := fun vs H Q _ => ∃ (a : Addr) (ys : List V), vs = .ref a :: ys ∧ ys.length = fns.length ∧ H a = some (exo a C none) ∧
  ∀ d, H d = none → d ≠ a → Q .non (upd (upd H d (exd d (fns.zip ys).reverse)) a (exo a C (some d)))
theorem tell_only {K : Frg} {C : Addr} {f : Str} {y : V} {D : L2.Ends} {H : Hp} {σ : L2.St} {a : Addr} (T : OexC K C) (hno : PySem.W.findIn K (.ref C) f = some none) (h0 : σ[0]? = some (some (.ref a))) (hi : σ[1]? = some (some y)) (ha : H a = some (exo a C none))
    (q : ∀ d, H d = none → d ≠ a → D.nx σ (upd (upd H d (exd d [(f, y)])) a (exo a C (some d)))) :
    tSeq (tDrop (tTell K)) (tOst K f (tVar 0) (tVar 1)) D σ H :=
  ⟨a, C, h0, T, ha, y, hi, .ref a, h0, a, C, rfl, T, hno, .inl ⟨ha, fun d hd hne => q d hd hne⟩⟩
/-! ## the three kinds of __init__ -/
def initT (x : Str) (fns : List Str) (sc : Scope) : Bool := ((("self" : Str) :: fns).all fun y => decide (sc.names.lookup y = some .local)) && (decide (sc.names.lookup x = some .globalImplicit) && ((x == ("__debug__" : Str)) == false && fns.all fun y => (y == ("__debug__" : Str)) == false && (y == ("__classdict__" : Str)) == false))
theorem initT_of {x : Str} {fns : List Str} {sc : Scope} (h : initT x fns sc = true) : (∀ y ∈ (("self" : Str) :: fns), sc.names.lookup y = some .local) ∧ sc.names.lookup x = some .globalImplicit ∧ (x == ("__debug__" : Str)) = false ∧ ∀ y ∈ fns, (y == ("__debug__" : Str)) = false ∧ (y == ("__classdict__" : Str)) = false := by
  unfold initT at h
  simp only [Bool.and_eq_true, List.all_eq_true, decide_eq_true_eq, beq_iff_eq] at h
  exact ⟨h.1, h.2.1, h.2.2.1, h.2.2.2⟩
section
variable {M : Md} {C CS fI : Addr} {m f1 f2 f3 f4 : Str} {jj : Nat} {p1 p2 p3 p4 p5 p6 a1 a2 a3 a4 b1 b2 b3 b4 c1 c2 c3 c4 d1 d2 d3 d4 : Pos} {name qual : Str} {params : Arguments} {body : List Stmt} {scope : Scope} {dV kV doc pm cdv ct oc : Value} {an od : Option Addr} {osl : Array (Option Value)}
theorem init_1 (lk : M.K.lookup fI = some ⟨oc, od, .func (PySem.W.fnOf name qual params body scope dV kV doc pm an cdv ct), osl⟩) (hcd : PySem.W.codeIn M.K cdv qual = true) (SC : FnScope ["self", f1] ["self", f1] scope) (hs : initT "StoneError" [f1] scope = true)
    (hCS : M.mg "StoneError" = some (.ref CS)) (i : IniC M.K CS) (T : OexC M.K C) (hno : ∀ f ∈ [f1], PySem.W.findIn M.K (.ref C) f = some none)
    (hb : body = [.Expr (.Call (.Attribute (.Name "StoneError" p1) "__init__" p2) [.Name "self" p3, .Constant (.str m) jj p4] [] p5) p6, .Assign [.Attribute (.Name "self" a1) f1 b1] (.Name f1 c1) d1])
    (hc : TellOk p1 p2 p3 p4 p5 m jj) :
    FnOk M.P M.w M.K M.mg M.base (L2.CX M.P M.w) 1 fI (PySem.W.fnOf name qual params body scope dV kV doc pm an cdv ct) ["self", f1] (spI M.K C [f1]) := by
  subst hb
  obtain ⟨h1, h2, h3, h4⟩ := initT_of hs
  refine fn_of lk hcd SC (fun vs H Q E h => by obtain ⟨a, ys, rfl, hl, _⟩ := h; simp [hl]) fun A outer s H vs Q E hr h => ?_
  obtain ⟨a, ys, rfl, hl, ha, hq⟩ := h
  have v : ∀ y ∈ (["self", f1] : List Str), Vis scope y := fun y hy => .inl (h1 y hy)
  rcases ys with _ | ⟨y1, _ | ⟨_, _⟩⟩ <;> simp at hl
  refine ⟨_, pss_cons (ps_expr (pe_tell (CS := CS) h2 hCS i rfl (v _ (by simp)) h3 hc)) (pss_one (ps_ost (pe_var (i := 0) rfl (v _ (by simp))) (pe_var (i := 1) rfl (v _ (by simp)) (h4 f1 (by simp)).1 (h4 f1 (by simp)).2))), ?_⟩
  exact tell_only T (hno _ (by simp)) rfl rfl ha fun d hd hne => hq d hd hne
end
/-! ## the class, the raise -/
def clsM : Stmt → Stmt
  | .ClassDef (body := b) .. => b.getD 0 (.Pass ⟨0, 0, 0, 0⟩)
  | _ => .Pass ⟨0, 0, 0, 0⟩
structure XfF (M : Md) (x : Str) (C : Addr) (fns : List Str) : Prop where
  mg : M.mg x = some (.ref C)
  oex : OexC M.K C
  fn : ∃ (fI : Addr) (fd : FuncData), PySem.W.findIn M.K (.ref C) "__init__" = some (some (.ref fI)) ∧ PySem.W.typeIn M.K (.ref fI) = some (.type "function") ∧ Binds M.K fd ("self" :: fns) [] ∧ FnOk M.P M.w M.K M.mg M.base (L2.CX M.P M.w) 1 fI fd ("self" :: fns) (spI M.K C fns)
def raiseW (x : Str) (fns : List Str) (ws : List Wv) (st1 : Sto) : SR := match allD ws with
  | some ds => if ds.length = fns.length then .ex ⟨x, (fns.zip ds).reverse⟩ st1 else .no
  | none => .no
def sRaiseF (x : Str) (fns : List Str) (cs : En → Sto → Rs (List Wv)) : En → Sto → SR := fun env st => (cs env st).sb (raiseW x fns)
@[simp] theorem x_raiseF (x : Str) (fns : List Str) (c : En → Sto → Rs (List Wv)) (env : En) (st : Sto) : sRaiseF x fns c env st = (c env st).sb (raiseW x fns) := rfl
theorem allD_len : ∀ {ws : List Wv} {ds : List PyData}, allD ws = some ds → ds.length = ws.length
  | [], _, e => by cases e; rfl
  | .d x :: ws, ds, e => by
    rw [allD_cons] at e
    cases q : allD ws with
    | none => rw [q] at e; cases e
    | some xs => rw [q] at e; cases e; simp [allD_len q]
  | .r _ :: _, _, e => by cases e
  | .x _ _ _ :: _, _, e => by cases e
theorem zip_fst : ∀ {α β γ : Type} {l : List α} {xs : List β} {ys : List γ}, xs.length = l.length → ys.length = l.length → (l.zip xs).map (·.1) = (l.zip ys).map (·.1)
  | _, _, _, [], _, _, _, _ => rfl
  | _, _, _, _ :: _, [], _, h, _ => by cases h
  | _, _, _, _ :: _, _ :: _, [], _, h => by cases h
  | _, _, _, a :: l, _ :: xs, _ :: ys, h1, h2 => by simp at h1 h2; simp [zip_fst h1 h2]
theorem zip_snd : ∀ {α β : Type} {l : List α} {xs : List β}, xs.length = l.length → (l.zip xs).map (·.2) = xs
  | _, _, [], [], _ => rfl
  | _, _, [], _ :: _, h => by cases h
  | _, _, _ :: _, [], h => by cases h
  | _, _, a :: l, _ :: xs, h1 => by simp at h1; simp [zip_snd h1]
theorem ds_raiseF {M : Md} {X : Cx} {B : Tb} {k : Nat} {pos p p3 : Pos} {fns : List Str} {e : Expr} {es : List Expr} {cs : En → Sto → Rs (List Wv)} (c : Cxt M X B k) (hk : 2 ≤ k) (j : Nat) {x : Str} (hg : B.gs[j]? = some x) (F : ∃ C, XfF M x C fns) (ha : DA X (e :: es) cs) (hz : fns.length ≤ 900 := by decide) (hdb : (x == ("__debug__" : Str)) = false := by decide)
    (he : starEach (e :: es) X.env = (false, eval e X.env) :: starEach es X.env := by rfl) (hpl : (backTo p3 (starEach es X.env)).any (·.1) = false := by rfl) :
    DS X (.Raise (some (.Call (.Name x p) (e :: es) [] p3)) none pos) (sRaiseF x fns cs) := by
  obtain ⟨C, F⟩ := F
  obtain ⟨fI, fd, i1, i2, i3, i4⟩ := F.fn
  obtain ⟨P, w, K, mg, base⟩ := M
  obtain ⟨rfl, rfl, rfl, rfl, rfl⟩ : X.prog = P ∧ X.w = w ∧ X.K = K ∧ X.mg = mg ∧ X.base = base := ⟨c.hP, c.hw, c.hK, c.mg, c.hb⟩
  refine ⟨fun W tk => PS.imp (ps_raise c.calm tk (pmk_oex (CX := L2.CX X.prog X.w) F.oex i1 i2 i4 (c.room.mono hk) i3 .nil (fun pins σ H s e s' I ⟨_, _, _, _, _, _, _, _, _, _, _, _, z⟩ => z.elim) (c.gl j x hg) F.mg (ha.pa W tk) hdb he hpl)) fun D σ H ⟨m, env, st, S, R, hp⟩ => ?_⟩
  unfold sRaiseF at hp
  rw [Rs.post_sb] at hp
  unfold raiseW at hp
  refine ⟨m, env, st, S, R, Rs.post_mono hp (fun ws st1 q vs H1 m1 f1 S1 r1 => ?_) fun _ _ h => h.x⟩
  split at q
  · rename_i ds e1
    split at q
    · rename_i hl
      have ra := allD_rp r1 e1
      have hv : vs.length = fns.length := by rw [r1.len, ← allD_len e1, hl]
      refine ⟨by omega, fun a hn => ⟨a, vs ++ [], rfl, by simpa using hv, upd_same, fun d hd hne => ⟨rfl, d, (fns.zip vs).reverse, upd_same, ?_, ?_, ?_⟩⟩⟩
      · rw [upd_ne hne, upd_same, List.append_nil]
      · rw [upd_ne hne] at hd; exact hd
      · rw [upd_ne hne] at hd
        rw [show upd (del (upd (upd (upd H1 a (exo a C none)) d (exd d (fns.zip (vs ++ [])).reverse)) a (exo a C (some d))) a) d (.xd (fns.zip vs).reverse) = upd H1 d (.xd (fns.zip vs).reverse) from by
          funext b
          by_cases z : b = d
          · rw [z, upd_same, upd_same]
          · rw [upd_ne z, upd_ne z]
            by_cases z2 : b = a
            · rw [z2, del_same, hn]
            · rw [del_ne z2, upd_ne z2, upd_ne z, upd_ne z2]]
        have g := grow_upd (o := .xd (fns.zip vs).reverse) hd
        refine q (.ref C) (some d) σ _ m1 (f1.trans (.same g)) (S1.grow g) ⟨⟨C, F.mg, rfl⟩, .inr ⟨d, rfl, (fns.zip vs).reverse, upd_same, ?_, ?_, S1.fresh hd⟩⟩
        · rw [List.map_reverse, List.map_reverse, zip_fst hv hl]
        · rw [List.map_reverse, List.map_reverse, zip_snd hv, zip_snd hl]
          exact (ra.mv (Fol.same (m := m1) (n := st1.length) g).kp).rev
    · exact q.elim
  · exact q.elim
theorem sh_isx2 (ea dd : Addr) (xn : Str) (es : List (Str × PyData)) (b : Bool) (env : En) (st : Sto) : eIsx ea xn (some dd) b 0 (some (.x ea xn (some (dd, es))) :: env) st = .ok (.d (.bool b)) st := sh_isx ea xn (some (dd, es)) b env st
theorem sh_xfO {fl : List (Str × List Str)} {ea dd : Addr} {xn f : Str} {es : List (Str × PyData)} {y : PyData} (h : f ∈ (fl.lookup xn).getD []) (hy : es.lookup f = some y) (env : En) (st : Sto) : eXfO fl ea xn (some dd) f 0 (some (.x ea xn (some (dd, es))) :: env) st = .ok (.d y) st := by
  unfold eXfO
  rw [if_pos h]
  exact x_xf _ _ _ _ _ _ _ _ _ rfl hy
end
section
variable [Wtp] [Tbl]
/-! ## defs as values: for f in (g, h, ..), f called -/
/-- where the module's defs stand -/
class FnA where
  a : Str → Addr
variable [FnA]
def fnv (x : Str) : Wv := .x (FnA.a x) x none
noncomputable def goF (c : En → Sto → Rs Wv) (i : Nat) (env : En) : List Str → List PyData → Sto → Rs (List PyData)
  | [], acc, st => .ok acc st
  | x :: r, acc, st => match c (env.set i (some (fnv x))) st with
    | .ok (.d y) st2 => goF c i env r (acc ++ [y]) st2
    | _ => .no
noncomputable def eLcF (fs : List Str) (i : Nat) (c : En → Sto → Rs Wv) (vs : List Nat) : En → Sto → Rs Wv := fun env st => (goF c i (wipeE env vs) fs [] st).bind fun ys st2 => .ok (.d (.list ys)) st2
/-- the defs' names, read -/
def tFs : List Str → TA
  | [] => tNil
  | x :: r => tCons (tC (.ref (FnA.a x))) (tFs r)
theorem tFs_go {σ : L2.St} {H : Hp} : ∀ {fs : List Str} {Q : List V → Hp → Prop}, Q (fs.map fun x => V.ref (FnA.a x)) H → tFs fs σ H Q
  | [], _, h => h
  | x :: r, Q, h => tFs_go (fs := r) (Q := fun xs H2 => Q (V.ref (FnA.a x) :: xs) H2) h
structure FnL (X : Cx) (es : List Expr) (fs : List Str) : Prop where
  pa : PA X es (tFs fs)
section
variable {M : Md} {X : Cx} {B : Tb} {k : Nat} {pos tp yp : Pos}
theorem fnl_nil : FnL X [] [] := ⟨pa_nil⟩
theorem fnl_cons (c : Cxt M X B k) (j : Nat) {x : Str} {p : Pos} {es : List Expr} {fs : List Str} (hg : B.gs[j]? = some x) (hm : M.mg x = some (.ref (FnA.a x))) (h : FnL X es fs) (hd : (x == ("__debug__" : Str)) = false := by decide)
    (hs : starEach (.Name x p :: es) X.env = (false, eval (.Name x p) X.env) :: starEach es X.env := by rfl) : FnL X (.Name x p :: es) (x :: fs) :=
  ⟨pa_cons (pe_glob (v := .ref (FnA.a x)) (c.gl j x hg) (by rw [c.mg]; exact hm) rfl hd) h.pa hs⟩
theorem rw_fnv {K : Frg} {H : Hp} {m : Mp} {n : Nat} (x : Str) : RW K H m n (.ref (FnA.a x)) (fnv x) := ⟨rfl, fun _ z => nomatch z⟩
/-- the comprehension, turn by turn -/
theorem lcF_data {W : WX} {fs : List Str} {i : Nat} {c : En → Sto → Rs Wv} {vs : List Nat} {Q : VK} {σ : L2.St} {H : Hp} (hi : i ∈ vs) (hn : fs.length ≤ 1000) (h : tE X W (eLcF fs i c vs) σ H Q) :
    tLc (iTup X.K (tTup (tFs fs))) (gName i) tYes (tE X Wno c) vs σ H Q := by
  obtain ⟨m, env, st, S, R, hp⟩ := h
  unfold eLcF at hp
  rw [Rs.post_bind] at hp
  have big : fs.length < sizeLine := Nat.lt_of_lt_of_le (by omega) line_lim
  refine tFs_go ⟨by rw [List.length_map]; exact Nat.le_of_lt big, fun a ha => ?_⟩
  generalize hxs : (fs.map fun x => V.ref (FnA.a x)) = xs
  have lx : xs.length = fs.length := by rw [← hxs, List.length_map]
  have g0 := grow_upd (o := .tup xs) ha
  have f0 : Fol m st.length H m st.length (upd H a (.tup xs)) := .same g0
  refine ⟨a, rfl, ⟨xs, .inl (.inl upd_same)⟩, fun D hD => ?_⟩
  have hD0 : ¬ Nn H D := fun z => nn_no hD (f0.dom D z)
  obtain ⟨S1, f1⟩ := (S.grow g0).start (D := D) (o := .lst []) hD
  have aD : a ≠ D := fun e => by rw [← e, upd_same] at hD; cases hD
  refine lc_tup (xs := xs) (fun j Hc => ∃ m2 st2 acc us, Fol m st.length H (m2.done D) st2.length Hc ∧ Sim X.K Hc m2 st2 ∧ m2.F D ∧ Hc D = some (.lst us) ∧ RpA X.K Hc (Off m2 st2.length) us acc ∧ acc.length ≤ j ∧ Hc a = some (.tup xs) ∧
    (goF c i (wipeE env vs) (fs.drop j) acc st2).post (fun ys st' => (Rs.ok (Wv.d (.list ys)) st').post (okE X m st.length H Q) (okX X W m st.length H σ)) (okX X W m st.length H σ))
    ⟨m.with D, st, [], [], f0.trans (f1.done (nn_no hD)), S1, .inr rfl, upd_same, .nil, Nat.le_refl _, by rw [upd_ne aD]; exact upd_same, hp⟩ (fun j Hc _ ⟨_, _, _, _, _, _, _, _, _, _, ht, _⟩ => .inl (.inl ht)) (fun j v Hc hj w => ?_) fun Hc w => ?_
  · obtain ⟨m2, st2, acc, us, f2, S2, F2, hc2, r2, ha2, ht, q2⟩ := w
    have hlt : j < fs.length := by have := (List.getElem?_eq_some_iff.mp hj).1; omega
    have hv : v = .ref (FnA.a fs[j]) := by
      rw [← hxs, List.getElem?_map, List.getElem?_eq_getElem hlt] at hj
      cases hj; rfl
    subst hv
    rw [List.drop_eq_getElem_cons hlt] at q2
    unfold goF at q2
    have fe : Fol m st.length H m2 st2.length Hc := f2.undone hD0
    have R2 := ((R.mv fe).wipe vs).set i (rw_fnv fs[j])
    have bw : But vs (L2.wipe σ vs) ((L2.wipe σ vs).set i (some (V.ref (FnA.a fs[j])))) := .set hi
    refine ⟨bw.wipe fun _ h => h, ?_⟩
    show tE X Wno c _ Hc _
    refine ⟨m2, _, st2, S2, R2, ?_⟩
    split at q2
    · rename_i y5 st5 hc5
      rw [hc5]
      intro v5 H5 m5 f5 S5 r5
      have nD : ∀ i, i < st2.length → m2.ix i ≠ D := fun i hi e => S2.fi i hi (e ▸ F2)
      have c5 : H5 D = some (.lst us) := f5.rest _ _ nt_lst hc2 nD
      have F5 : m5.F D := (f5.eF D ⟨_, hc2, nt_lst⟩).mpr F2
      have kp : Kp X.K H5 (Off m5 st5.length) (upd H5 D (.lst (us ++ [v5]))) (Off m5 st5.length) := .push F5 c5
      refine ⟨us, c5, ?_, m5, st5, acc ++ [y5], us ++ [v5], (f2.trans (f5.done2 D)).updD hD0, S5.push F5 c5, F5, upd_same, ((r2.mv f5.kp).app (.cons r5 .nil)).mv kp, by simp; exact ha2, ?_, q2⟩
      · have := r2.len
        omega
      · rw [upd_ne aD]
        exact f5.tup _ _ ht
    · exact q2.elim
  · obtain ⟨m2, st2, acc, us, f2, S2, F2, hc2, r2, ha2, ht, q2⟩ := w
    rw [List.drop_eq_nil_of_le (by omega)] at q2
    have kp : Kp X.K Hc (Off m2 st2.length) Hc (Off (m2.done D) st2.length) := ⟨fun _ _ h => h, fun _ _ _ h => h, fun a o _ h z => ⟨h, off_done a z⟩⟩
    exact q2 _ Hc (m2.done D) f2 (S2.sub rfl fun a z => z.1) (.lst (.inl ⟨hc2, fun i hi e => S2.fi i hi (by rw [show m2.ix i = D from e]; exact F2), fun z => z.2 rfl⟩) (r2.mv kp))
structure LcF (X : Cx) (es : List Expr) (fs : List Str) (tg : Expr) (i : Nat) (elt : Expr) (scope : Scope) (own : List (Str × Nat)) (c : En → Sto → Rs Wv) : Prop where
  pa : FnL X es fs
  ok : BlkOk X.N X.env.scope scope own
  hv : i ∈ own.map (·.2)
  hn : fs.length ≤ 1000
  hg : ∀ (s : Shared) (H : Hp) (C : Addr) (cl : List (Str × Addr)) (fp : List Addr), PG (X.blk s H scope (compEnvC scope cl C X.env) fp) tg (gName i)
  he : ∀ (s : Shared) (H : Hp) (C : Addr) (cl : List (Str × Addr)) (fp : List Addr), DE (X.blk s H scope (compEnvC scope cl C X.env) fp) elt c
theorem lcF_ok (cx : Cxt M X B k) (own : List (Str × Nat)) (us ls : List Nat) (gs cs : List Str) {es : List Expr} {fs : List Str} {y : Str} (i : Nat) {elt : Expr} {scope : Scope} {c : En → Sto → Rs Wv} (hb : blkT B us ls gs cs scope own = true) (hp : FnL X es fs) (hy : B.N[i]? = some y) (hl : i ∈ ls) (hv : i ∈ own.map (·.2)) (hn : fs.length ≤ 1000)
    (he : ∀ X' : Cx, Cxt M X' (B.blk us ls gs cs) k → DE X' elt c) : LcF X es fs (.Name y yp) i elt scope own c :=
  ⟨hp, cx.blkOk hb, hv, hn, fun s H C cl fp => by
    have c' := cx.blk hb s H C cl fp
    obtain ⟨l1, l2⟩ := c'.loc i hl y hy
    exact pg_name (by rw [c'.hN]; exact c'.nd) (by rw [c'.hN]; exact hy) l1 l2, fun s H C cl fp => he _ (cx.blk hb s H C cl fp)⟩
section
variable {es : List Expr} {fs : List Str} {tg : Expr} {i : Nat} {elt : Expr} {scope : Scope} {own : List (Str × Nat)} {c : En → Sto → Rs Wv} {k2 : Nat}
theorem de_lcF (cx : Cxt M X B k) (h : LcF X es fs tg i elt scope own c) (hs : ∀ x, foldedSetIterable (.Tuple es k2 tp) X.env x = pure x := by intro _; rfl) : DE X (.ListComp elt [⟨tg, .Tuple es k2 tp, [], 0⟩] scope pos) (eLcF fs i c (own.map (·.2))) :=
  ⟨fun W tk => PE.imp (pe_lc (wi := iTup X.K (tTup (tFs fs))) (tt := tYes) (te := tE X Wno c) cx.calm (by rw [cx.hN]; exact cx.nd) (pi_tup (pe_tup h.pa.pa)) h.ok h.hg (fun s H C cl fp => pts_nil) (fun s H C cl fp => (h.he s H C cl fp).pe Wno takes_no) hs) fun σ H Q q => lcF_data h.hv h.hn q⟩
end
/-! ### such a def called -/
def eCallV (tab : Str → Option (List Wv → Sto → Rs Wv)) (i : Nat) (cs : En → Sto → Rs (List Wv)) : En → Sto → Rs Wv := fun env st => match env[i]? with
  | some (some (.x a x none)) => if a = FnA.a x then match tab x with
    | some mf => (cs env st).bind mf
    | none => .no
    else .no
  | _ => .no
/-- what the table's defs are -/
structure FnT (M : Md) (g : Bool) (k : Nat) (tab : Str → Option (List Wv → Sto → Rs Wv)) : Prop where
  at' : ∀ x mf, tab x = some mf → ∃ (fd : FuncData) (ps : List Str), M.mg x = some (.ref (FnA.a x)) ∧ PySem.W.keepIn M.K (.ref (FnA.a x)) = true ∧ Binds M.K fd ps [] ∧ Fnk M g k (FnA.a x) fd ps mf
theorem de_callv {g : Bool} {tab : Str → Option (List Wv → Sto → Rs Wv)} {cs : En → Sto → Rs (List Wv)} {p : Pos} {e : Expr} {es : List Expr} (c : Cxt M X B k) (F : FnT M g k tab) (i : Nat) {y : Str} (hy : B.N[i]? = some y) (hu : i ∈ B.us) (ha : DA X (e :: es) cs)
    (hgd : g = true → B.gd = true := by first | exact fun _ => rfl | exact fun z => Bool.noConfusion z) (hd : (y == ("__debug__" : Str)) = false := by decide) (hcd : (y == ("__classdict__" : Str)) = false := by decide)
    (he : starEach (e :: es) X.env = (false, eval e X.env) :: starEach es X.env := by rfl) (hpl : (backTo pos (starEach es X.env)).any (·.1) = false := by rfl) : DE X (.Call (.Name y p) (e :: es) [] pos) (eCallV tab i cs) := by
  refine .mk' fun W pins σ H s m env st Q tk I S R hp => ?_
  unfold eCallV at hp
  split at hp
  · rename_i a x ew
    split at hp
    · rename_i ea
      split at hp
      · rename_i mf em
        obtain ⟨fd, ps, hm, hk, hb, F⟩ := F.at' x mf em
        obtain ⟨P, w, K, mg, base⟩ := M
        obtain ⟨rfl, rfl, rfl, rfl, rfl⟩ : X.prog = P ∧ X.w = w ∧ X.K = K ∧ X.mg = mg ∧ X.base = base := ⟨c.hP, c.hw, c.hK, c.mg, c.hb⟩
        rw [Rs.post_bind] at hp
        obtain ⟨v0, hv0, rv0⟩ := R.at' i _ ew
        obtain ⟨rfl, _⟩ := rv0
        refine wpAny_Call_Name_kw (thn ((pe_var (pos := p) (i := i) (by rw [c.hN]; exact hy) (c.vis i hu y hy) hd hcd).run pins s σ H (fun v H1 => v = .ref a ∧ H1 = H) I ⟨_, hv0, rfl, rfl⟩) fun u s0 hh => ?_)
        obtain ⟨v, H0, I0, r0, rfl, rfl⟩ := hh
        obtain rfl : u = Value.ref a := r0
        subst ea
        refine PySem.W.callWith_K (h₀ := X.base) I0.ok.mod.kin hk (ha.go tk I0 S R pos (Rs.post_mono hp (fun ws st1 q vs H1 m1 us s1 I1 rv f1 S1 r1 => ⟨I1.kIn, ?_⟩) fun _ _ q => q)) he hpl
        have hl : us.length = ps.length := by rw [← rv.length, r1.len]; exact F.len _ _ _ _ q
        have bd := hb s1 us I1.kIn (by rw [List.append_nil]; exact hl)
        rw [List.append_nil] at bd
        refine wpAny_call (codeAny_mono (F.run X.A X.stack s1 H1 ⟨us, []⟩ us vs ws m1 st1 (fun v H' => ∀ u s', Inv X pins σ H' s' → RelV v u → Q u s') (WE W σ) c.room (fun z => c.gu (hgd z)) I1.env0 bd rv S1 r1 (Rs.post_mono q (fun w st2 q2 v H2 m2 f2 S2 r2 u s2 I2 rv2 => ?_) fun e st2 q2 c d H2 m2 f2 S2 r2 => ?_)) fun r s2 hq => ?_)
        · exact q2 v H2 m2 u s2 I2 rv2 (f1.trans f2) S2 r2
        · exact q2 c d H2 m2 (f1.trans f2) S2 r2
        · cases r with
          | error e => exact passAt tk σ pins H1 s1 e s2 I1 hq
          | ok fl =>
            cases fl with
            | ret u =>
              obtain ⟨v, H2, I2, rv2, q2⟩ := I1.after hq
              exact q2 u s2 I2 rv2
            | next => exact False.elim hq
            | brk => exact False.elim hq
            | cont => exact False.elim hq
      · exact hp.elim
    · exact hp.elim
  · exact hp.elim
end
theorem fnt_nil {M : Md} {g : Bool} {k : Nat} : FnT M g k (fun y => List.lookup y []) := ⟨fun x mf h => nomatch h⟩
theorem fnt_cons {M : Md} {g : Bool} {k : Nat} {x : Str} {ps : List Str} {mf : List Wv → Sto → Rs Wv} {l : List (Str × (List Wv → Sto → Rs Wv))} (hm : M.mg x = some (.ref (FnA.a x))) (h : Has M g k x ps mf) (r : FnT M g k (fun y => List.lookup y l)) : FnT M g k (fun y => List.lookup y ((x, mf) :: l)) := ⟨fun y mf' e => by
  rw [List.lookup_cons] at e
  split at e
  · rename_i q
    cases e
    cases eq_of_beq q
    obtain ⟨f, fd, h1, h2, h3, h4⟩ := h
    rw [hm] at h1
    cases h1
    exact ⟨fd, ps, hm, h2, h3, h4⟩
  · exact r.at' y mf' e⟩
@[simp] theorem x_lcF (fs : List Str) (i : Nat) (c : En → Sto → Rs Wv) (vs : List Nat) (env : En) (st : Sto) : eLcF fs i c vs env st = (goF c i (wipeE env vs) fs [] st).bind fun ys st2 => .ok (.d (.list ys)) st2 := rfl
theorem goF_nil (c : En → Sto → Rs Wv) (i : Nat) (env : En) (acc : List PyData) (st : Sto) : goF c i env [] acc st = .ok acc st := rfl
theorem goF_cons {c : En → Sto → Rs Wv} {i : Nat} {env : En} {x : Str} {r : List Str} {acc : List PyData} {st st2 : Sto} {y : PyData} (h : c (env.set i (some (fnv x))) st = .ok (.d y) st2) : goF c i env (x :: r) acc st = goF c i env r (acc ++ [y]) st2 := by
  rw [goF, h]
theorem x_callV {tab : Str → Option (List Wv → Sto → Rs Wv)} {i : Nat} {cs : En → Sto → Rs (List Wv)} {env : En} {st : Sto} {x : Str} {mf : List Wv → Sto → Rs Wv} (h : env[i]? = some (some (fnv x))) (ht : tab x = some mf) : eCallV tab i cs env st = (cs env st).bind mf := by
  unfold eCallV
  rw [h]
  show (if FnA.a x = FnA.a x then match tab x with | some mf => (cs env st).bind mf | none => .no else .no) = _
  rw [if_pos rfl, ht]
/-! ### the law's own call, its reading by where the defs stand -/
omit [FnA] in
theorem walk_runF {α : Type} {ts : List Addr} {g : Bool} {l : PySem.W.OpenLaw} {n k : Nat} {q : Program} {loose : List Str} {XP : (Str → Option Value) → Heap → Prop} {YP : World → Heap → Prop} {d : DefRec} {K : Params → Frg} {x : Str} {mf : α → List Wv → Sto → Rs Wv}
    (hI : importsNone q = true) (hn : l.most = some n) (hn2 : n ≤ sizeLine) (hdf : d.params.defaults = []) (hr : Room k callerA) (hY : ∀ (w : World) (h : Heap), YP w h → (K w.params).In h) (hT : ∀ (w : World) (h : Heap), YP w h → ∀ P ∈ ts, h.get? P = some (PySem.W.tabObj #[]))
    (F : ∀ (w : World) (mg : Str → Option Value) (fa : Addr) (h : Heap), (K w.params).In h → h.Ns mainGlobals mg → mg d.name = some (.ref fa) →
      ∃ (al : α) (fd : FuncData) (TT : Tbl) (cs : List (Addr × Addr)), (∀ p ∈ TT.T, ∃ c, (c, p.1) ∈ cs) ∧ (∀ p ∈ cs, p.2 ∈ ts ∧ (K w.params).lookup p.2 = none ∧ PySem.W.codeHdIn (K w.params) p.1 p.2 = true) ∧
        (∀ (s : Shared) (u : Value), BindsTo s fd ⟨[u], []⟩ [(x, u)]) ∧ ∀ base : Heap, (K w.params).In base → base.Ns mainGlobals mg → SysM base → (∀ p ∈ cs, LamX.TabB base mg p.1 p.2) → @Fnk _ TT ⟨l.prog, w, K w.params, mg, base⟩ g k fa fd [x] (mf al))
    (law : ∀ (al : α) (ns : List Int), ns.length ≤ n → ∃ st, mf al [.d (.list (ns.map .int))] [] = .ok (.d (.bool true)) st) :
    PySem.W.WalkO q loose XP YP l.row.toRowW d [] (fun f vs => PySem.call f vs) := by
  refine Att.attach_call hn hdf fun w s0 s mg mb fa o pm cd doc a us ns G Y ho hd hcd hmg hobj hints hlen hg => ?_
  have inK := hY w _ Y
  obtain ⟨al, fd, TT, cs, h1, h2, hb, hF⟩ := F w mg fa _ inK G.T.g hmg
  obtain ⟨st, hl⟩ := law al ns hlen
  exact law_runT h1 inK G.T.g G.T.b G.T.builtins G.T.nolimit (sysM_of (G.T.seer hI)) hg (fun p hp => hT w _ Y _ (h2 p hp).1) (fun p hp => (h2 p hp).2.1) (fun p hp => PySem.W.codeHd_of_K inK (h2 p hp).2.2) G.T.bmain hobj hints (Nat.le_trans hlen hn2) hr hF hb hl
end
section
variable [Wtp] [Tbl]
open LamX
/-! ## lambdas that are kept in a list -/
/-- nothing more is said of the object -/
def anyU : HO := .ext fun _ => True
theorem any_ok {P : Program} {w : World} {H : Hp} {h : Heap} {a : Addr} {o : Obj} (e : h.get? a = some o) : ObjOk P w H h a (.frz o anyU) := ⟨e, trivial, ⟨o, e⟩, fun _ _ _ _ => trivial⟩
section
variable {X : Cx} {pins : List (Addr × Obj)} {σ : L2.St} {H : Hp} {s : Shared} {params : Arguments} {body : Expr} {scope : Scope}
abbrev lamQ (X : Cx) : Str := X.env.qual ++ "<lambda>"
abbrev lamO (X : Cx) (params : Arguments) (body : Expr) (scope : Scope) (pm : Value) (c' : Addr) (ctv : Value) : Obj := PySem.W.kla_obj "<lambda>" (lamQ X) params body scope (cloFrom X.env.cells scope.names []) pm c' ctv
/-- a table that tells one code object more -/
abbrev moreH (H : Hp) (P c : Addr) (ps : Array Value) (pos : Pos) (q : Str) : Hp := upd (upd H P (.tbl (ps ++ #[rawInt pos.line, rawInt pos.col, .ref c]))) c (CodeO c q)
theorem more_ext {P c : Addr} {ps : Array Value} {pos : Pos} {q : Str} (hP : H P = some (.tbl ps)) (nC : H c = none) : ExtN H (moreH H P c ps pos q) := by
  intro b o e n
  have h1 : b ≠ c := fun z => by rw [z, nC] at e; cases e
  have h2 : b ≠ P := fun z => by rw [z, hP] at e; exact n ps (Option.some.inj e).symm
  unfold moreH
  rw [upd_ne h1, upd_ne h2]
  exact e
theorem more_tabs {T : List (Addr × Str)} {P c : Addr} {ps : Array Value} {pos : Pos} {q : Str} (hT : Tabs T H) (hP : H P = some (.tbl ps)) (ok : TriplesOk ps.toList) (nC : H c = none) (one : ∀ p ∈ T, p.1 = P → p.2 = q) : Tabs T (moreH H P c ps pos q) := by
  intro p hp
  have ex : ExtN H (moreH H P c ps pos q) := more_ext hP nC
  obtain ⟨rs, a1, a2, a3⟩ := hT p hp
  have old : ∀ {p' : Pos} {cv : Value}, codeAmong p' rs.toList = some cv → ∃ b, cv = .ref b ∧ moreH H P c ps pos q b = some (CodeO b p.2) := fun h => by
    obtain ⟨b, e1, e2⟩ := a3 _ _ h
    exact ⟨b, e1, ex _ _ e2 codeO_ne⟩
  rcases Classical.em (p.1 = P) with z | z
  · have zq := one p hp z
    rw [z, hP] at a1
    cases a1
    refine ⟨ps ++ #[rawInt pos.line, rawInt pos.col, .ref c], ?_, ?_, fun p' cv h => ?_⟩
    · rw [z]
      unfold moreH
      rw [upd_ne (ne_of_none hP nC), upd_same]
    · rw [Array.toList_append]
      exact PySem.TriplesOk_snoc _ _ _ _ ok
    · rw [Array.toList_append] at h
      rcases among_app _ ok h with h | h
      · exact old h
      · refine ⟨c, h, ?_⟩
        rw [zq]
        exact upd_same
  · refine ⟨rs, ?_, a2, fun p' cv h => old h⟩
    unfold moreH
    rw [upd_ne (ne_of_none a1 nC), upd_ne z]
    exact a1
/-- a lambda is made and known from then on -/
theorem lam_kept {T : List (Addr × Str)} {c P : Addr} {pos : Pos} {E : Value → Shared → Prop} {Q : Value → Shared → Prop} (I : Inv X pins σ H s) (TB : TabB X.base X.mg c P) (hcode : X.env.code = .ref c) (hm : (P, lamQ X) ∈ T) (one : ∀ p ∈ T, p.1 = P → p.2 = lamQ X)
    (hT : Tabs T H) (hdef : defaultsOf params X.env = ([], [])) (hfree : ∀ y ∈ scope.names, y.2 = .free → ∃ c, X.env.cells.lookup y.1 = some c)
    (h : ∀ (f c' : Addr) (pm ctv : Value) (H1 : Hp) (s' : Shared), ExtN H H1 → Tabs T H1 → H1 f = none → H1 c' = some (CodeO c' (lamQ X)) → Inv X pins σ (upd H1 f (.frz (lamO X params body scope pm c' ctv) anyU)) s' → Q (.ref f) s') :
    wpAny (model X.prog X.w) X.A (eval (.Lambda params body scope pos) X.env) Q E s := by
  obtain ⟨ps, hP, ok, tells⟩ := hT _ hm
  have bP : s.heap.BuiltinsAt X.mg P := TB.bm.keeps I.bk
  have gP : s.heap.get? P = some { cls := .none, data := .fields ps } := I.hok P _ hP
  have gl := I.mod.glob.keeps I.bk
  have cd := TB.code.keeps I.bk
  have laid : ∀ {H1 : Hp} {h' : Heap} {pm ctv : Value} {c' : Addr} {tk tk' : Nat}, Inv X pins σ H1 { s with heap := h', toks := tk } → Inv X pins σ (upd H1 h'.objs.size (.frz (lamO X params body scope pm c' ctv) anyU)) { s with heap := h'.push (lamO X params body scope pm c' ctv), toks := tk' } ∧ H1 h'.objs.size = none := fun {H1 h' pm ctv c' tk tk'} J =>
    ⟨J.laid (t' := tk') (fun b u e => Heap.get?_push_of_some _ e) (Nat.le_refl _) (any_ok (Heap.get?_push_size _ rfl)), J.hok.fresh (Nat.le_refl _)⟩
  refine PySem.W.kla_eval hdef ?_
  rcases hc : codeAmong pos ps.toList with _ | cv
  · refine PySem.W.kla_makeFunction (closure_ok hfree) I.ok.glob gl hcode cd gP ok hc TB.gP bP fun c' ctv h' tk keeps new lt rec_ tab => ?_
    obtain ⟨b, oc, vs, t, z, hoc, hd, hv⟩ := rec_
    cases z
    have nC : H c' = none := I.hok.fresh new
    have J := inv_table (t' := tk) (q := lamQ X) (more := #[rawInt pos.line, rawInt pos.col, .ref c']) I hP keeps tab new ⟨oc, vs, t, hoc, hd, hv⟩
    have L := laid (pm := (X.mg "__name__").getD .none) (ctv := ctv) (c' := c') (tk' := tk) J
    exact h _ c' _ ctv _ _ (more_ext hP nC) (more_tabs hT hP ok nC one) L.2 upd_same L.1
  · obtain ⟨c', rfl, known⟩ := tells pos cv hc
    refine PySem.W.kla_makeFunctionHit (closure_ok hfree) I.ok.glob gl hcode cd gP ok hc bP fun ctv h' tk keeps size => ?_
    have L := laid (pm := (X.mg "__name__").getD .none) (ctv := ctv) (c' := c') (tk' := tk) (I.kept (t' := s.toks) keeps)
    exact h _ c' _ ctv H _ (ExtN.refl H) hT L.2 known L.1
end
/-! ### a comprehension whose element may lean on the def's own state -/
/-- as tLc, the turns counted, no test -/
def tLcI (wi : TI) (g : TG) (te : TE) (vs : List Nat) : TE := fun σ H Q => wi σ H fun J H1 => ∀ D, H1 D = none → ∃ (n : Nat) (Z : Nat → Hp → Prop), Z 0 (upd H1 D (.lst [])) ∧ (∀ H2, Z n H2 → J.stop n H2 ∧ Q (.ref D) H2) ∧
  ∀ i H2, i < n → Z i H2 → J.go i H2 ∧ ∀ x H3, J.yld i H2 x H3 → g x (wipe σ vs) H3 fun σ4 H4 => wipe σ4 vs = wipe σ vs ∧ te σ4 H4 fun y H5 => ∃ acc, H5 D = some (.lst acc) ∧ acc.length < sizeLine ∧ Z (i + 1) (upd H5 D (.lst (acc ++ [y])))
section
variable {X : Cx}
theorem pe_lcI {elt tg iter : Expr} {scope : Scope} {own : List (Str × Nat)} {pos : Pos} {wi : TI} {g : TG} {te : L2.St → TE} (calm : X.calm = true) (nd : X.N.Nodup) (hi : PI X tg iter wi) (ok : BlkOk X.N X.env.scope scope own)
    (hg : ∀ (s : Shared) (H : Hp) (C : Addr) (cl : List (Str × Addr)) (fp : List Addr), PG (X.blk s H scope (compEnvC scope cl C X.env) fp) tg g)
    (he : ∀ (σ : L2.St) (pins : List (Addr × Obj)) (s : Shared) (H : Hp) (C : Addr) (cl : List (Str × Addr)) (fp : List Addr), Inv X pins σ H s → (∀ b ∈ fp, FpOk X pins H b) → PE (X.blk s H scope (compEnvC scope cl C X.env) fp) elt (te σ))
    (hs : ∀ x, foldedSetIterable iter X.env x = pure x := by intro _; rfl) : PE X (.ListComp elt [⟨tg, iter, [], 0⟩] scope pos) (fun σ => tLcI wi g (te σ) (own.map (·.2)) σ) := by
  refine ⟨fun pins s σ H Q I h => ?_⟩
  have clos : ∀ y ∈ scope.names, y.2 = .free → ∃ c, X.env.cells.lookup y.1 = some c := fun y hy e => (ok.free y hy e).elim (fun k => I.ok.has _ (.inl k)) fun k => I.ok.has _ (.inr k)
  rw [eval_ListComp]
  refine wpAny_comprehension_free rfl hs (closure_ok clos) ok.kind (fun y hy e => by rw [ok.uniq y hy, e]) (thn (hi.run pins s σ H _ I h) fun xv s1 hx => thn hx fun itv s2 hp => ?_)
  obtain ⟨it, fp, tn, J, H2, rfl, I2, T, t2, f2, turns⟩ := hp
  refine wpAny_newObj_type (newEnv_comp ?_) (by show 0 ≤ sizeLine; decide)
  -- the new list
  have DN : H2 s2.heap.objs.size = none := I2.hok.fresh (Nat.le_refl _)
  obtain ⟨n, Z, z0, zn, zi⟩ := turns _ DN
  have push : ∀ b o, s2.heap.get? b = some o → (s2.heap.push { cls := .type "list", data := .seq ([] : List Value).toArray }).get? b = some o := fun b o e => Heap.get?_push_of_some _ e
  have ID := I2.laid (t' := s2.toks) (o := .lst []) push (Nat.le_refl _) ⟨Nat.zero_le _, [], 0, .nil, Heap.get?_push_size _ rfl⟩
  have fpD : ∀ b ∈ fp, FpOk X pins (upd H2 s2.heap.objs.size (.lst [])) b ∧ b < (s2.heap.push { cls := .type "list", data := .seq ([] : List Value).toArray }).objs.size := fun b hb => by
    obtain ⟨o, e, _⟩ := T.obj _ _ t2 b hb
    have lt := Heap.lt_size e
    exact ⟨⟨by rw [upd_ne (Nat.ne_of_lt lt)]; exact (f2 b hb).1, (f2 b hb).2⟩, Heap.lt_size (push b o e)⟩
  have tD := T.keep 0 _ _ t2 fun b _ o e => push b o e
  obtain ⟨D, hD⟩ : ∃ D, D = s2.heap.objs.size := ⟨_, rfl⟩
  obtain ⟨sD, eD⟩ : ∃ sD, sD = ({ s2 with heap := s2.heap.push { cls := .type "list", data := .seq ([] : List Value).toArray } } : Shared) := ⟨_, rfl⟩
  have hDs : sD.heap = s2.heap.push { cls := .type "list", data := .seq ([] : List Value).toArray } := by rw [eD]
  rw [← hDs] at fpD tD
  rw [show ({ s2 with heap := s2.heap.push { cls := .type "list", data := .seq ([] : List Value).toArray }, toks := s2.toks } : Shared) = sD from eD.symm] at ID
  rw [← hD] at ID fpD z0 zn zi
  generalize upd H2 D (.lst []) = HD at *
  have IB := block_start ID ok nd fpD
  have pg := hg sD HD sD.heap.objs.size (cellsFrom (sD.heap.objs.size + 1) scope.names (cloFrom X.env.cells scope.names [])) fp
  have pe := he σ pins sD HD sD.heap.objs.size (cellsFrom (sD.heap.objs.size + 1) scope.names (cloFrom X.env.cells scope.names [])) fp ID fun b hb => (fpD b hb).1
  rw [← eD, ← hD]
  show codeAny _ _ (.compStart (.ListComp elt [⟨tg, iter, [], 0⟩] scope pos) 0 (.ref it) (.ref D) (compEnvC scope (cellsFrom (sD.heap.objs.size + 1) scope.names (cloFrom X.env.cells scope.names [])) sD.heap.objs.size X.env)) (compPost (model X.prog X.w) X.A X.xe none (EP X pins σ Q) (.ref D) sD.heap.objs.size) { sD with heap := pushCells (sD.heap.push { cls := .type "dict", data := .dict #[] }) scope.names }
  obtain ⟨ce, hce⟩ : ∃ ce, ce = compEnvC scope (cellsFrom (sD.heap.objs.size + 1) scope.names (cloFrom X.env.cells scope.names [])) sD.heap.objs.size X.env := ⟨_, rfl⟩
  have Lce : ce.locals = sD.heap.objs.size := by rw [hce]; rfl
  rw [← hce] at IB pg pe ⊢
  have tB := T.keep 0 _ (pushCells (sD.heap.push { cls := .type "dict", data := .dict #[] }) scope.names) tD fun b _ o e => pushCells_keeps _ _ _ _ (Heap.get?_push_of_some _ e)
  generalize hsB : ({ sD with heap := pushCells (sD.heap.push { cls := .type "dict", data := .dict #[] }) scope.names } : Shared) = sB at IB ⊢
  have tB : tn 0 sB.heap := by rw [← hsB]; exact tB
  -- the iterator's objects within the block
  have still : ∀ {σ' : L2.St} {H' : Hp} {s' : Shared}, Inv (X.blk sD HD scope ce fp) [] σ' H' s' → (∀ b ∈ fp, H' b = none) → ∀ b ∈ fp, FpOk (X.blk sD HD scope ce fp) [] H' b := fun J' no b hb => by
    have ob := J'.ok
    exact ⟨no b hb, (ob.exf b hb).1, ob.exfs b hb, .inl hb, (ob.exf b hb).2, fun p hp => nomatch hp⟩
  have ends : ∀ {H' : Hp} {s' : Shared} {σ' : L2.St}, Inv (X.blk sD HD scope ce fp) [] σ' H' s' → Q (.ref D) H' → compPost (model X.prog X.w) X.A X.xe none (EP X pins σ Q) (.ref D) sD.heap.objs.size (.ok .next) s' := fun {H' s' σ'} J' q => by
    have back : Inv X pins σ H' s' := ID.call' (ch := fp) J'.os J'.base J'.hok J'.bare fun b hb => ⟨(fpD b hb).1.2.2.2.1, (fpD b hb).1.2.1, (fpD b hb).1.2.2.2.2.1, (fpD b hb).1.2.2.2.2.2⟩
    have fr : H' ce.locals = none := J'.free
    obtain ⟨m, ns, _⟩ := J'.loc
    have ns : s'.heap.Ns ce.locals m := ns
    rw [Lce] at fr ns
    obtain ⟨g0, g1, g2, g3, g4, g5⟩ := ID.fpOk (Nat.le_refl _) fr
    exact ⟨m, ns, fun h'' same => ⟨.ref D, H', back.turned (t' := s'.toks) (fun b o hb e => (same.2 b hb).trans e) g0 g1 g3 g4 g5, rfl, q⟩⟩
  have loop : codeAny (model X.prog X.w) X.A (.compLoop (.ListComp elt [⟨tg, iter, [], 0⟩] scope pos) 0 (.ref it) (.ref D) ce) (compPost (model X.prog X.w) X.A X.xe none (EP X pins σ Q) (.ref D) sD.heap.objs.size) sB := by
    refine compLoop_any (fun m s' => ∃ i H', i + m = n ∧ Inv (X.blk sD HD scope ce fp) [] (wipe σ (own.map (·.2))) H' s' ∧ tn i s'.heap ∧ (∀ b ∈ fp, H' b = none) ∧ Z i H') ?_ n ⟨0, HD, Nat.zero_add n, IB, tB, fun b hb => (fpD b hb).1.1, z0⟩
    rintro m s' ⟨i, H', sum, J', ti, no, zz⟩
    rcases Nat.eq_zero_or_pos m with rfl | pos_m
    · -- all told
      obtain rfl : i = n := sum
      obtain ⟨stop, q⟩ := zn H' zz
      refine thnF (T.done (X.blk sD HD scope ce fp) rfl rfl rfl calm i [] s' _ H' (fun _ _ => False) J' (still J' no) ti stop) fun r s6 ⟨hr, J6⟩ => ?_
      subst hr
      exact ends J6 q
    · obtain ⟨go, step⟩ := zi i H' (by omega) zz
      refine thnF (T.item (X.blk sD HD scope ce fp) rfl rfl rfl calm i [] s' _ H' (fun _ _ => False) J' (still J' no) ti go) fun r s6 ⟨u, hr, q6⟩ => ?_
      subst hr
      refine thnF q6 fun _ s7 ⟨x, H7, J7, rx, yx, t7, no7⟩ => ?_
      have P7 := J7.pinned (still J7 no7) (T.obj _ _ t7)
      refine thnF (pg.run _ s7 _ H7 x u _ P7 rx (step x H7 yx)) fun _ s8 ⟨σ8, H8, J8, w8, q8⟩ => ?_
      refine thnF ((pts_nil (X := X.blk sD HD scope ce fp)).run _ s8 σ8 H8 (fun b H => b = true ∧ H = H8) J8 ⟨rfl, rfl⟩) fun b s9 ⟨H9, J9, hb, eH⟩ => ?_
      subst hb
      subst eH
      simp only [if_true]
      refine thnF (pe.run _ s9 σ8 H9 _ J9 q8) fun y s10 ⟨yv, H10, J10, ry, acc, hacc, room, z10⟩ => ?_
      refine app_ok (X := X.blk sD HD scope ce fp) J10 hacc room ry fun s11 J11 => ⟨m - 1, by omega, i + 1, _, by omega, (J11.unpinned (pins := [])).weak ?_ (fun j v e => ?_), T.keep _ _ _ t7 fun b hb o e => ?_, fun b hb => ?_, z10⟩
      · rw [← w8, wipe_length]
      · rw [← w8] at e
        exact (wipe_some e).1
      · exact (J11.pin (b, o) (List.mem_append_right _ (List.mem_append_right _ (mem_pinsAt hb e)))).1
      · obtain ⟨o, e, _⟩ := T.obj _ _ t7 b hb
        exact (J11.pin (b, o) (List.mem_append_right _ (List.mem_append_right _ (mem_pinsAt hb e)))).2.1
  exact codeAny_compStart_list loop (T.self X.A 0 _ _ _ tB loop)
end
/-! ### a lambda of the list is told -/
section
variable {X : Cx} {pins : List (Addr × Obj)} {σ : L2.St} {H : Hp} {s : Shared} {params : Arguments} {body : Expr} {scope : Scope}
/-- what is known of a lambda's reading -/
structure LamRd (X : Cx) (kb : Nat) (params : Arguments) (body : Expr) (scope : Scope) (t : XK → TE) : Prop where
  L : LamS X.env.scope scope
  bind : ∀ (q : Str) (cl : List (Str × Addr)) (pm cv ctv : Value), bindArgs (PySem.W.kla_fn "<lambda>" q params body scope cl pm cv ctv) ⟨[], []⟩ = pure []
  body : ∀ (A : Around) (outer : List Env) (s : Shared) (H : Hp) (E : XK) (f c' : Addr), Room kb (A.deeper (lamEnv X scope s.heap.objs.size f c')) → PE (lamCx X A outer s H E scope f c') body (t E)
/-- the lambda at f -/
def LamAt (X : Cx) (kb : Nat) (f : Addr) (H : Hp) (t : XK → TE) : Prop := ∃ (params : Arguments) (body : Expr) (scope : Scope) (pm : Value) (c' : Addr) (ctv : Value), LamRd X kb params body scope t ∧ H f = some (.frz (lamO X params body scope pm c' ctv) anyU) ∧ H c' = some (CodeO c' (lamQ X))
theorem act_kept {Ng : List Str} {x a : Str} {sg : Scope} {g f c' : Addr} {cdg pm ctv : Value} {kb : Nat} {pn : List (Addr × Obj)} {xe : Value → Shared → Prop} {W : WX} {E : XK} {t : XK → TE} {p1 p2 : Pos} (I : Inv X pins σ H s) (Rd : LamRd X kb params body scope t)
    (tk : Takes ((cxOf C8.CX0 X.prog X.w X.K X.mg X.base Ng x sg g cdg X.A X.stack s H C8.E0).tr pn xe) W) (hW : ∀ cls d σ' H', E cls d H' → W cls d σ' H') (room : Room (kb + 1) (X.A.deeper (envOfC x sg s.heap.objs.size g cdg)))
    (hN : Ng[0]? = some a) (hv : Vis sg a) (hd : (a == ("__debug__" : Str)) = false) (hcd : (a == ("__classdict__" : Str)) = false) :
    PE ((cxOf C8.CX0 X.prog X.w X.K X.mg X.base Ng x sg g cdg X.A X.stack s H C8.E0).tr pn xe) (.Call (.Name a p1) [] [] p2)
      (fun σZ HZ Q => σZ[0]? = some (some (.ref f)) ∧ HZ c' = some (CodeO c' (lamQ X)) ∧ HZ f = some (.frz (lamO X params body scope pm c' ctv) anyU) ∧ t E σ HZ Q) := by
  refine ⟨fun pinsZ sZ σZ HZ Q IZ ⟨hs, hc, hf, ht⟩ => wpAny_Call_Name_kw (thn ((pe_var (pos := p1) (i := 0) hN hv hd hcd).run pinsZ sZ σZ HZ (fun v H1 => v = .ref f ∧ H1 = HZ) IZ ⟨.ref f, hs, rfl, rfl⟩) fun u s1 hu => ?_)⟩
  obtain ⟨v, H1, J, r1, ev, eH⟩ := hu
  subst ev eH
  have eu : u = Value.ref f := r1
  subst eu
  have obj : s1.heap.get? f = some (lamO X params body scope pm c' ctv) := (J.hok f _ hf).1
  obtain ⟨⟨oc, vs, tq, hoc, hdc, hvc⟩, _, _⟩ := J.hok c' _ hc
  have un : Un (frs X.stack) [] H H1 s.heap s1.heap := J.base
  refine PySem.W.callWith_F0 ⟨_, _, _, _, obj⟩ (wpAny_call (codeAny_mono (?_ : codeAny (model X.prog X.w) (X.A.deeper (envOfC x sg s.heap.objs.size g cdg)) (.call (.ref f) ⟨[], []⟩) (CR (L2.CX X.prog X.w) (envOfC x sg s.heap.objs.size g cdg :: X.stack) X.prog X.w H1 s1 Q E) s1) fun r s' hq => ?_))
  · refine PySem.W.kla_callFunE room.depth obj rfl Rd.L.co Rd.L.gen rfl ⟨c', oc, vs, tq, rfl, hoc, hdc, hvc⟩ ?_
    rw [Rd.bind]
    refine wpAny_pure (wpAny_newFunctionEnv (fun y hy => (Rd.L.own y hy).2) (fun y hy => nomatch hy) (fun h₁ ns same => ⟨J.nolimit.fresh _ same, ?_⟩) Rd.L.kind)
    have keep : ∀ b o, s1.heap.get? b = some o → h₁.get? b = some o := fun b o e => same.extBut b o (Nat.ne_of_lt (Heap.lt_size e)) (Heap.get?_push_of_some _ e)
    have begun := lam_start2 (f := f) (c' := c') (E := E) (tk := s1.toks + ([] : List (Str × Value)).length) I Rd.L J.env0 room.hd un ns keep
    show codeAny _ _ (.expr body (lamEnv X scope s1.heap.objs.size f c')) _ _
    refine PySem.W.kla_codeExpr (wpAny_mono ((Rd.body _ _ s1 H1 E f c' (room.deeper _)).run [] _ _ H1 Q begun ht) (fun v s' hq => ?_) fun e s' hq => hq)
    obtain ⟨w', H', J', rv, q⟩ := hq
    exact ⟨w', H', J'.os, J'.bare, J'.base, J'.hok, rv, q⟩
  · rcases r with e | fl
    · exact passes_call tk hW pinsZ σZ H1 s1 e s' J hq
    · cases fl with
      | ret u => exact J.after hq
      | next => exact False.elim hq
      | brk => exact False.elim hq
      | cont => exact False.elim hq
/-- x(v) in a block of the def, v one of its lambdas -/
theorem pe_tellK {Ng : List Str} {x a v : Str} {sg scB : Scope} {g : Addr} {pg : Arguments} {bg : List Stmt} {dV kV doc pm cdv ct oc : Value} {an od : Option Addr} {osl : Array (Option Value)} {k j : Nat} {TT : (XK → Hp → VK → Prop) → Hp → VK → Prop} {p p2 pos : Pos} {ce : Env} {fp : List Addr}
    (I3 : Inv X pins σ H s) (hfp : ∀ b ∈ fp, FpOk X pins H b) (hg : Gl (X.blk s H scB ce fp) x) (hm : X.mg x = some (.ref g)) (hk : PySem.W.keepIn X.K (.ref g) = true)
    (lk : X.K.lookup g = some ⟨oc, od, .func (PySem.W.fnOf x x pg bg sg dV kV doc pm an cdv ct), osl⟩) (hcg : PySem.W.codeIn X.K cdv x = true) (hb : L2.Binds X.K (PySem.W.fnOf x x pg bg sg dV kV doc pm an cdv ct) [a] []) (Sg : FnScope Ng [a] sg) (hNg : Ng[0]? = some a) (hva : Vis sg a)
    (hG : GivesTo X Ng x sg g cdv bg a (lamQ X) TT) (room : Room (k + 2) X.A) (hj : X.N[j]? = some v) (hv : Vis ce.scope v)
    (hdb : (x == ("__debug__" : Str)) = false) (hd : (a == ("__debug__" : Str)) = false) (hcd : (a == ("__classdict__" : Str)) = false) (hdv : (v == ("__debug__" : Str)) = false) (hcv : (v == ("__classdict__" : Str)) = false) :
    PE (X.blk s H scB ce fp) (.Call (.Name x p) [.Name v p2] [] pos) (fun σY HY Q => ∃ (f : Addr) (t : XK → TE), σY[j]? = some (some (.ref f)) ∧ LamAt X k f HY t ∧ ∀ ob, HY f = some ob → TT (fun E H' Q' => H' f = some ob ∧ t E σ H' Q') HY Q) := by
  refine ⟨fun pinsY sY σY HY Q IY h => ?_⟩
  obtain ⟨f, t, hs, ⟨params, body, scope, pm', c', ctv, Rd, hf, hc⟩, ht⟩ := h
  refine wpAny_Call_Name_kw (ld_glob IY hg hm ?_ hdb)
  refine PySem.W.callWith_K (h₀ := X.base) IY.ok.mod.kin hk ?_ (by rfl) (by rfl)
  show wpAny _ _ (spliced ((false, eval (.Name v p2) ce) :: backTo pos (starEach [] ce))) _ _ sY
  refine Calls.spliced_cons (thn ((pe_var (X := X.blk s H scB ce fp) (pos := p2) (i := j) hj hv hdv hcv).run pinsY sY σY HY (fun w H1 => w = .ref f ∧ H1 = HY) IY ⟨.ref f, hs, rfl, rfl⟩) fun u s1 hu => ?_)
  obtain ⟨w, H1, J, r1, ew, eH⟩ := hu
  subst ew eH
  have eu : u = Value.ref f := r1
  subst eu
  refine Calls.spliced_nil ⟨J.kIn, ?_⟩
  have mine : Inv X pins σ H1 s1 := I3.call' (ch := fp) J.os J.base J.hok J.bare fun b hb => ⟨(hfp b hb).2.2.2.1, (hfp b hb).2.1, (hfp b hb).2.2.2.2.1, (hfp b hb).2.2.2.2.2⟩
  refine wpAny_call (codeAny_mono (?_ : codeAny (model X.prog X.w) X.A (.call (.ref g) ⟨[.ref f], []⟩) (CR C8.CX0 X.stack X.prog X.w H1 s1 Q C8.E0) s1) fun r s2 hq => ?_)
  · refine run_ofS (N := Ng) (ps := [a]) (us := [.ref f]) (vs := [.ref f]) lk hcg Sg room J.env0 (hb s1 [.ref f] J.kIn rfl) (.cons rfl .nil) rfl fun room' => ?_
    obtain ⟨t', ht', hq'⟩ := hG f c' s1 H1 Q (fun E H' Q' => H' f = some (.frz (lamO X params body scope pm' c' ctv) anyU) ∧ t E σ H' Q') (fun W pn xe E p1 p2 tk hW => act_kept mine Rd tk hW room' hNg hva hd hcd) hc (ht _ hf)
    exact ⟨t', ht'.nox, hq'⟩
  · rcases r with e | fl
    · exact (show False from hq).elim
    · cases fl with
      | ret u => exact J.after hq
      | next => exact False.elim hq
      | brk => exact False.elim hq
      | cont => exact False.elim hq
end
end
section
variable [Wtp] [Tbl]
open LamX
/-! ## lambdas kept in a list: read by data -/
section
variable {K : Frg} {H H' : Hp} {m m' : Mp} {n n' : Nat}
theorem ObAt.noext {a : Addr} {o : Ob} (h : ObAt K H m n a o) (φ : Heap → Prop) : H a ≠ some (.ext φ) := fun z => by
  cases o with
  | lst xs => obtain ⟨vs, e, _⟩ := h; rw [z] at e; cases e
  | dct kvs => obtain ⟨vs, e, _⟩ := h; rw [z] at e; cases e
  | dtt kvs => obtain ⟨vs, e, _⟩ := h; rw [z] at e; cases e
  | lkd kvs =>
    cases (show Rp K H (Off m n) (.ref a) (.dict kvs) from h) with
    | dic h1 _ => rw [z] at h1; cases h1
    | dit h1 _ => rw [z] at h1; cases h1
  | lkl xs => obtain ⟨o, vs, h1, _⟩ := h; rw [z] at h1; cases h1
theorem Sim.noext {st : Sto} (S : Sim K H m st) {c : Addr} {φ : Heap → Prop} (h : H c = some (.ext φ)) : ∀ i, i < st.length → m.ix i ≠ c := fun i hi e => by
  have q := S.ob i _ (List.getElem?_eq_getElem hi)
  rw [e] at q
  exact q.noext φ h
theorem Fol.away (f : Fol m n H m' n' H') {a : Addr} (h : Nn H a) (o : ∀ i, i < n → m.ix i ≠ a) : ∀ i, i < n' → m'.ix i ≠ a := fun i hi e => by
  by_cases q : i < n
  · exact o i q (by rw [← f.old i q]; exact e)
  · exact f.new i (by omega) hi (by rw [e]; exact h)
theorem LamAt.fol {X : Cx} {kb : Nat} {f : Addr} {t : XK → TE} {st : Sto} (h : LamAt X kb f H t) (S : Sim K H m st) (g : Fol m st.length H m' n' H') : LamAt X kb f H' t := by
  obtain ⟨params, body, scope, pm, c', ctv, Rd, hf, hc⟩ := h
  exact ⟨params, body, scope, pm, c', ctv, Rd, g.frz _ _ _ hf, g.rest _ _ (fun ps z => codeO_ne ps z) hc (S.noext hc)⟩
end
/-- a lambda's reading, by its data -/
abbrev rdT (X : Cx) (cl : En → Sto → Rs Wv) : XK → TE := fun E => tE X (fun c d _ H => E c d H) cl
/-- the list of lambdas at L -/
structure LamsAt (X : Cx) (kb : Nat) (L : Addr) (H : Hp) (fs : List Addr) (cls : List (En → Sto → Rs Wv)) : Prop where
  at' : H L = some (.lst (fs.map V.ref))
  len : fs.length = cls.length
  it : ∀ (i : Nat) f cl, fs[i]? = some f → cls[i]? = some cl → LamAt X kb f H (rdT X cl)
theorem LamsAt.fol {X : Cx} {kb : Nat} {L : Addr} {H H' : Hp} {fs : List Addr} {cls : List (En → Sto → Rs Wv)} {K : Frg} {m m' : Mp} {n' : Nat} {st : Sto} (h : LamsAt X kb L H fs cls) (S : Sim K H m st) (o : ∀ i, i < st.length → m.ix i ≠ L) (g : Fol m st.length H m' n' H') : LamsAt X kb L H' fs cls :=
  ⟨g.rest _ _ nt_lst h.at' o, h.len, fun i f cl e1 e2 => (h.it i f cl e1 e2).fol S g⟩
def tEL (X : Cx) (W : WX) (kb j : Nat) (cls : List (En → Sto → Rs Wv)) (c : En → Sto → Rs Wv) : TE := fun σ H Q => ∃ m env st L fs, Sim X.K H m st ∧ EnvR X.K H m st.length env σ ∧ σ[j]? = some (some (V.ref L)) ∧ (∀ i, i < st.length → m.ix i ≠ L) ∧ LamsAt X kb L H fs cls ∧ (c env st).post (okE X m st.length H Q) (okX X W m st.length H σ)
def goK (T : Option Str) (fl : Xc → Option PyData) (env : En) : List (En → Sto → Rs Wv) → List PyData → Sto → Rs (List PyData)
  | [], acc, st => .ok acc st
  | cl :: r, acc, st => match saidR T fl st.length (cl env st) with
    | .ok (.d y) st2 => goK T fl env r (acc ++ [y]) st2
    | _ => .no
/-- all are told, one by one -/
def eLams (T : Option Str) (fl : Xc → Option PyData) (cls : List (En → Sto → Rs Wv)) : En → Sto → Rs Wv := fun env st => (goK T fl env cls [] st).bind fun ys st2 => .ok (.d (.list ys)) st2
@[simp] theorem goK_nil (T : Option Str) (fl : Xc → Option PyData) (env : En) (acc : List PyData) (st : Sto) : goK T fl env [] acc st = .ok acc st := rfl
theorem goK_cons {T : Option Str} {fl : Xc → Option PyData} {env : En} {cl : En → Sto → Rs Wv} {r : List (En → Sto → Rs Wv)} {acc : List PyData} {st st2 : Sto} {y : PyData} (h : saidR T fl st.length (cl env st) = .ok (.d y) st2) : goK T fl env (cl :: r) acc st = goK T fl env r (acc ++ [y]) st2 := by
  rw [goK, h]
section
variable {M : Md} {X : Cx} {B : Tb} {k kf kb nN : Nat} {x q : Str} {T : Option Str} {fl : Xc → Option PyData} {cb : Addr → Str → Option Addr → En → Sto → SR} {ok : Str → Addr → Prop} {σ : L2.St} {H : Hp} {m : Mp} {env : En} {st : Sto} {cl : En → Sto → Rs Wv}
/-- what the def makes of one of them -/
theorem said_tt {f CS : Addr} {o : Obj} {u : HO} {Q : VK} (e1 : X.prog = M.P) (e2 : X.w = M.w) (e3 : X.K = M.K) (e4 : X.mg = M.mg) (e5 : X.base = M.base)
    (s9 : ∀ (xn : Str) (C : Addr), M.mg xn = some (.ref C) → ok xn C → PySem.W.exmOne M.K (.ref C) (.ref CS) = some true)
    (fl' : ∀ (e : Xc) (y : PyData), fl e = some y → ∃ C, M.mg e.name = some (.ref C) ∧ ok e.name C ∧ ∀ (ea : Addr) (p : Option (Addr × List (Str × PyData))) (st : Sto), (e.fs = [] ∧ p = none ∨ ∃ dd, p = some (dd, e.fs)) → mkF 1 nN (cb ea e.name (p.map (·.1))) [.x ea e.name p] st = .ok (.d y) st)
    (S1 : Sim X.K H m st) (R : EnvR X.K H m st.length env σ) (hf : H f = some (.frz o u)) (hp : ∀ y st', saidR T fl st.length (cl env st) = .ok (.d y) st' → (Rs.ok (Wv.d y) st').post (okE X m st.length H Q) fun _ _ => False) (hno : ∃ y st', saidR T fl st.length (cl env st) = .ok (.d y) st') :
    TTsaid M T nN cb ok CS (fun E H' Q' => H' f = some (.frz o u) ∧ rdT X cl E σ H' Q') H Q := by
  obtain ⟨P, w, K, mg, base⟩ := M
  obtain ⟨rfl, rfl, rfl, rfl, rfl⟩ : X.prog = P ∧ X.w = w ∧ X.K = K ∧ X.mg = mg ∧ X.base = base := ⟨e1, e2, e3, e4, e5⟩
  refine ⟨hf, m, env, st, S1, R, ?_⟩
  obtain ⟨y, st1, hy⟩ := hno
  have hp := hp y st1 hy
  cases ec : cl env st with
  | no => rw [ec] at hy; cases hy
  | ok w st' =>
    rw [ec] at hy
    unfold saidR at hy
    simp only at hy
    split at hy
    · rename_i z ez
      cases hy
      intro v H' m' f1 S' r
      have tl : (st'.take st.length).length = st.length := by rw [List.length_take]; have := f1.le; omega
      have ry := rl_frz S' f1.le r ez
      have f2 : Fol m st.length H m' (st'.take st.length).length H' := by rw [tl]; exact f1.back
      cases T with
      | none => exact hp v H' m' f2 (S'.take f1.le) (by rw [tl]; exact ry)
      | some t =>
        refine ⟨Nat.le_trans (by omega) line_lim, fun p np => ?_⟩
        have g := grow_upd (o := .tup [.str t, v]) np
        refine hp _ _ m' (f2.trans (.same g)) ((S'.take f1.le).grow g) ?_
        rw [tl]
        have f3 : Fol m' st.length H' m' st.length (upd H' p (.tup [.str t, v])) := .same g
        exact .tup (.inl upd_same) (.cons (.str t) (.cons (ry.mv f3.kp) .nil))
    · cases hy
  | ex e' st' =>
    rw [ec] at hy
    unfold saidR at hy
    simp only at hy
    split at hy
    · rename_i z ez
      cases hy
      obtain ⟨C, hC, hok, hrun⟩ := fl' e' _ ez
      intro cls d H' m' f1 S' r
      have tl : (st'.take st.length).length = st.length := by rw [List.length_take]; have := f1.le; omega
      obtain ⟨⟨C2, hC2, rfl⟩, hfld⟩ := r
      have eC : C = C2 := by
        have hC2' : X.mg e'.name = some (.ref C2) := hC2
        rw [show X.mg e'.name = some (.ref C) from hC] at hC2'
        cases hC2'
        rfl
      subst eC
      refine ⟨s9 _ _ hC hok, fun ea na => ?_⟩
      have key : ∀ p : Option (Addr × List (Str × PyData)), p.map (·.1) = d → (e'.fs = [] ∧ p = none ∨ ∃ dd, p = some (dd, e'.fs)) → (∀ q, p = some q → XdAt X.K H' m' (st'.take st.length).length q.1 q.2) → flP ⟨X.prog, X.w, X.K, X.mg, X.base⟩ nN cb ok (.ref C) d ea H' Q := fun p h1 h2 h3 => by
        refine ⟨m', st'.take st.length, e'.name, C, p, rfl, hC, hok, S'.take f1.le, h3, ?_⟩
        rw [← h1, hrun ea p _ h2]
        intro v H2 m2 f2 S2 r2
        refine hp v H2 m2 ?_ S2 r2
        rw [tl] at f2 ⊢
        exact f1.back.trans f2
      rcases hfld with ⟨z1, z2⟩ | ⟨dd, z1, fs, y1, y2, y3, y4⟩
      · exact key none z2.symm (.inl ⟨z1, rfl⟩) fun q z => nomatch z
      · refine key (some (dd, e'.fs)) z1.symm (.inr ⟨dd, rfl⟩) fun q z => ?_
        cases z
        rw [tl]
        exact ⟨fs, y1, y2, y3.mv (.le f1.le), off_le f1.le y4⟩
    · cases hy
theorem kp_done {Hc : Hp} {m2 : Mp} {n2 : Nat} {D : Addr} : Kp X.K Hc (Off m2 n2) Hc (Off (m2.done D) n2) := ⟨fun _ _ h => h, fun _ _ _ h => h, fun a o _ h z => ⟨h, off_done a z⟩⟩
/-- the comprehension over them, turn by turn -/
theorem lams_data {W : WX} {j i : Nat} {cls : List (En → Sto → Rs Wv)} {vs : List Nat} {Q : VK} {TT : (XK → Hp → VK → Prop) → Hp → VK → Prop} (hi : i ∈ vs) (hn : cls.length ≤ 1000) (hl : i < σ.length)
    (tell : ∀ {cl : En → Sto → Rs Wv} {H : Hp} {m : Mp} {env : En} {st : Sto} {f : Addr} {ob : HO} {Q : VK}, cl ∈ cls → Sim X.K H m st → EnvR X.K H m st.length env σ → H f = some ob → (∃ o u, ob = .frz o u) → (∀ y st', saidR T fl st.length (cl env st) = .ok (.d y) st' → (Rs.ok (Wv.d y) st').post (okE X m st.length H Q) fun _ _ => False) → (∃ y st', saidR T fl st.length (cl env st) = .ok (.d y) st') →
      TT (fun E H' Q' => H' f = some ob ∧ rdT X cl E σ H' Q') H Q)
    (h : tEL X W kb j cls (eLams T fl cls) σ H Q) :
    tLcI (iList X.K (tVar j)) (gName i) (fun σY HY Q => ∃ (f : Addr) (t : XK → TE), σY[i]? = some (some (V.ref f)) ∧ LamAt X kb f HY t ∧ ∀ ob, HY f = some ob → TT (fun E H' Q' => H' f = some ob ∧ t E σ H' Q') HY Q) vs σ H Q := by
  obtain ⟨m, env, st, L, fs, S, R, hj, hL, A, hp⟩ := h
  unfold eLams at hp
  rw [Rs.post_bind] at hp
  have NL : Nn H L := ⟨_, A.at', nt_lst⟩
  refine ⟨.ref L, hj, L, rfl, ⟨_, .of A.at'⟩, fun D hD => ?_⟩
  have hD0 : ¬ Nn H D := nn_no hD
  obtain ⟨S1, f1⟩ := S.start (D := D) (o := .lst []) hD
  have LD : L ≠ D := fun e => by rw [← e, A.at'] at hD; cases hD
  have big : ∀ {n : Nat}, n ≤ cls.length → n < sizeLine := fun z => Nat.lt_of_lt_of_le (show _ < 1001 by omega) (Nat.le_trans (by omega) line_lim)
  refine ⟨cls.length, fun n Hc => ∃ m2 st2 acc us, Fol m st.length H (m2.done D) st2.length Hc ∧ Sim X.K Hc m2 st2 ∧ m2.F D ∧ Hc D = some (.lst us) ∧ RpA X.K Hc (Off m2 st2.length) us acc ∧ acc.length ≤ n ∧ (∀ i, i < st2.length → m2.ix i ≠ L) ∧ LamsAt X kb L Hc fs cls ∧
    (goK T fl env (cls.drop n) acc st2).post (fun ys st' => (Rs.ok (Wv.d (.list ys)) st').post (okE X m st.length H Q) (okX X W m st.length H σ)) (okX X W m st.length H σ), ?_, fun Hc z => ?_, fun n Hc hlt z => ?_⟩
  · refine ⟨m.with D, st, [], [], f1.done hD0, S1, .inr rfl, upd_same, .nil, Nat.le_refl _, hL, ?_, hp⟩
    refine ⟨by rw [upd_ne LD]; exact A.at', A.len, fun i f cl e1 e2 => ?_⟩
    obtain ⟨params, body, scope, pm, c', ctv, Rd, hf, hc⟩ := A.it i f cl e1 e2
    exact ⟨params, body, scope, pm, c', ctv, Rd, by rw [upd_ne (fun e => by rw [e, hD] at hf; cases hf)]; exact hf, by rw [upd_ne (fun e => by rw [e, hD] at hc; cases hc)]; exact hc⟩
  · obtain ⟨m2, st2, acc, us, f2, S2, F2, hc2, r2, ha2, hl2, A2, q2⟩ := z
    rw [List.drop_length] at q2
    refine ⟨⟨_, .of A2.at', by rw [List.length_map, A2.len]; exact Nat.le_refl _⟩, ?_⟩
    exact q2 _ Hc (m2.done D) f2 (S2.sub rfl fun a z => z.1) (.lst (.inl ⟨hc2, fun i hi e => S2.fi i hi (by rw [show m2.ix i = D from e]; exact F2), fun z => z.2 rfl⟩) (r2.mv kp_done))
  · obtain ⟨m2, st2, acc, us, f2, S2, F2, hc2, r2, ha2, hl2, A2, q2⟩ := z
    have hfs : n < fs.length := by rw [A2.len]; exact hlt
    refine ⟨⟨_, V.ref fs[n], .of A2.at', by rw [List.getElem?_map, List.getElem?_eq_getElem hfs]; rfl⟩, fun x H3 yld => ?_⟩
    obtain ⟨rfl, ex⟩ := yld
    have ex := ex _ (.of A2.at')
    rw [List.getElem?_map, List.getElem?_eq_getElem hfs] at ex
    obtain rfl : V.ref fs[n] = x := Option.some.inj ex
    have bw : But vs (L2.wipe σ vs) ((L2.wipe σ vs).set i (some (V.ref fs[n]))) := .set hi
    refine ⟨bw.wipe fun _ h => h, fs[n], rdT X cls[n], ?_, A2.it n _ _ (List.getElem?_eq_getElem hfs) (List.getElem?_eq_getElem hlt), fun ob hob => ?_⟩
    · exact List.getElem?_set_self (by rw [L2.wipe_length]; exact hl)
    · rw [List.drop_eq_getElem_cons hlt] at q2
      unfold goK at q2
      have fe : Fol m st.length H m2 st2.length H3 := f2.undone hD0
      split at q2
      · rename_i y5 st5 said
        have frz : ∃ o u, ob = .frz o u := by
          obtain ⟨_, _, _, _, _, _, _, hf, _⟩ := A2.it n _ _ (List.getElem?_eq_getElem hfs) (List.getElem?_eq_getElem hlt)
          rw [hob] at hf
          cases hf
          exact ⟨_, _, rfl⟩
        refine tell (List.getElem_mem hlt) S2 (R.mv fe) hob frz (fun y st' e => ?_) ⟨_, _, said⟩
        rw [said] at e
        cases e
        intro v5 H5 m5 f5 S5 r5
        have nD : ∀ i, i < st2.length → m2.ix i ≠ D := fun i hi e => S2.fi i hi (e ▸ F2)
        have c5 : H5 D = some (.lst us) := f5.rest _ _ nt_lst hc2 nD
        have F5 : m5.F D := (f5.eF D ⟨_, hc2, nt_lst⟩).mpr F2
        have kp : Kp X.K H5 (Off m5 st5.length) (upd H5 D (.lst (us ++ [v5]))) (Off m5 st5.length) := .push F5 c5
        have A5 := A2.fol S2 hl2 f5
        refine ⟨us, c5, ?_, m5, st5, acc ++ [y5], us ++ [v5], (f2.trans (f5.done2 D)).updD hD0, S5.push F5 c5, F5, upd_same, ((r2.mv f5.kp).app (.cons r5 .nil)).mv kp, by simp; exact ha2, f5.away ⟨_, A2.at', nt_lst⟩ hl2, ?_, q2⟩
        · have := r2.len
          exact big (by omega)
        · refine ⟨by rw [upd_ne LD]; exact A5.at', A5.len, fun i f cl e1 e2 => ?_⟩
          obtain ⟨params, body, scope, pm, c', ctv, Rd, hf, hc⟩ := A5.it i f cl e1 e2
          exact ⟨params, body, scope, pm, c', ctv, Rd, by rw [upd_ne (fun e => by rw [e, c5] at hf; cases hf)]; exact hf, by rw [upd_ne (fun e => by rw [e, c5] at hc; cases hc)]; exact hc⟩
      · exact q2.elim
end
end
section
variable [Wtp] [Tbl]
open LamX
/-! ## lambdas kept in a list: the statements -/
section
variable {M : Md} {X : Cx} {B : Tb} {k kf kb nN : Nat} {x q : Str} {T : Option Str} {fl : Xc → Option PyData} {cb : Addr → Str → Option Addr → En → Sto → SR} {ok : Str → Addr → Prop} {cls : List (En → Sto → Rs Wv)} {cl : En → Sto → Rs Wv} {W : WX} {pos pos' spos p p1 p2 p3 p4 : Pos}
/-- [x(v) for v in calls] -/
theorem pe_lams {us ls : List Nat} {gs cs : List Str} {own : List (Str × Nat)} {scope : Scope} {i jc jg : Nat} {calls v : Str} (cx : Cxt M X B k) (S : SaidT M x kf nN T fl cb ok) (hb : blkT B us ls gs cs scope own = true) (hc : B.N[jc]? = some calls) (hcu : jc ∈ B.us) (hv : B.N[i]? = some v) (hiu : i ∈ us) (hil : i ∈ ls) (hio : i ∈ own.map (·.2))
    (hg : gs[jg]? = some x) (hk : kf + 2 ≤ k) (hk2 : kb + 2 ≤ k) (hn : cls.length ≤ 1000) (hdb : (x == ("__debug__" : Str)) = false) (dv1 : (v == ("__debug__" : Str)) = false) (dv2 : (v == ("__classdict__" : Str)) = false) (dc1 : (calls == ("__debug__" : Str)) = false) (dc2 : (calls == ("__classdict__" : Str)) = false)
    (hs : ∀ z, foldedSetIterable (.Name calls p4) X.env z = pure z := by intro _; rfl) : PE X (.ListComp (.Call (.Name x p) [.Name v p2] [] pos) [⟨.Name v p3, .Name calls p4, [], 0⟩] scope pos') (tEL X W kb jc cls (eLams T fl cls)) := by
  obtain ⟨P, w, K, mg, base⟩ := M
  obtain ⟨rfl, rfl, rfl, rfl, rfl⟩ : X.prog = P ∧ X.w = w ∧ X.K = K ∧ X.mg = mg ∧ X.base = base := ⟨cx.hP, cx.hw, cx.hK, cx.mg, cx.hb⟩
  obtain ⟨g, od, an, sl, oc, kV, dc, pm, cd, ct, pg, bg, sg, a, e, CS, s1, s2, s3, s4, s5, s6, s7, s8, s9⟩ := S.at'
  have va : Vis sg a := (s6.par a List.mem_cons_self).elim (fun z => .inl z) fun z => .inr (.inl z)
  have fl' := S.fl'
  have hN := cx.hN
  refine ⟨fun pins s σ H Q I h => ?_⟩
  have hi : i < σ.length := by
    rw [I.len, hN]
    exact (List.getElem?_eq_some_iff.mp hv).1
  refine (pe_lcI (te := fun σ σY HY Q => ∃ (f : Addr) (t : XK → TE), σY[i]? = some (some (V.ref f)) ∧ LamAt X kb f HY t ∧ ∀ ob, HY f = some ob → TTsaid ⟨X.prog, X.w, X.K, X.mg, X.base⟩ T nN cb ok CS (fun E H' Q' => H' f = some ob ∧ t E σ H' Q') HY Q) cx.calm (by rw [hN]; exact cx.nd) (pi_list (pe_var (pos := p4) (by rw [hN]; exact hc) (cx.vis jc hcu _ hc) dc1 dc2)) (cx.blkOk hb) (fun s H C cl fp => ?_) (fun σ pins s H C cl fp I3 hfp => ?_) hs).run pins s σ H Q I
    (lams_data (T := T) (fl := fl) hio hn hi (fun {cl H m env st f ob Q} _ S1 R hf hob h1 h2 => ?_) h)
  · have c' := cx.blk hb s H C cl fp
    obtain ⟨l1, l2⟩ := c'.loc i hil v hv
    exact pg_name (by rw [c'.hN]; exact c'.nd) (by rw [c'.hN]; exact hv) l1 l2
  · have c' := cx.blk hb s H C cl fp
    exact pe_tellK I3 hfp (c'.gl jg x hg) s1 s4 s2 s3 s5 s6 rfl va (s8 X _ rfl rfl rfl rfl rfl (L2H.roomH_of (cx.room.mono hk))) (cx.room.mono hk2) (by rw [hN]; exact hv) (c'.vis i hiu v hv) hdb s7.1 s7.2 dv1 dv2
  · obtain ⟨o, u, rfl⟩ := hob
    exact said_tt (M := ⟨X.prog, X.w, X.K, X.mg, X.base⟩) rfl rfl rfl rfl rfl s9 fl' S1 R hf h1 h2
/-! ### a lambda made -/
def tLamN (X : Cx) (kb : Nat) (cl : En → Sto → Rs Wv) : TE := fun _ H Q => Tabs Tbl.T H ∧ ∀ (f : Addr) (H1 : Hp) (ob : Obj), ExtN H H1 → Tabs Tbl.T H1 → H1 f = none → LamAt X kb f (upd H1 f (.frz ob anyU)) (rdT X cl) → Q (.ref f) (upd H1 f (.frz ob anyU))
/-- a lambda whose reading is known -/
structure LamD (X : Cx) (kb : Nat) (lam : Expr) (cl : En → Sto → Rs Wv) : Prop where
  pe : PE X lam (tLamN X kb cl)
theorem lamd_ok {params : Arguments} {body : Expr} {scope : Scope} {lpos : Pos} (c : Cxt M X B k) (hlq : B.lq = some q) (us : List Nat) (gs : List Str) (hL : lamB B us gs scope = true) (hb : ∀ X' : Cx, Cxt M X' (B.lam us gs) kb → DE X' body cl)
    (hdef : defaultsOf params X.env = ([], []) := by rfl) (hbind : ∀ (q : Str) (cl : List (Str × Addr)) (pm cv ctv : Value), bindArgs (PySem.W.kla_fn "<lambda>" q params body scope cl pm cv ctv) ⟨[], []⟩ = pure [] := by intros; rfl) : LamD X kb (.Lambda params body scope lpos) cl := by
  obtain ⟨P, w, K, mg, base⟩ := M
  obtain ⟨rfl, rfl, rfl, rfl, rfl⟩ : X.prog = P ∧ X.w = w ∧ X.K = K ∧ X.mg = mg ∧ X.base = base := ⟨c.hP, c.hw, c.hK, c.mg, c.hb⟩
  obtain ⟨hq, cc, PP, l1, l2, l3, l4⟩ := c.lam q hlq
  have L := lam_s c hL
  have Rd : LamRd X kb params body scope (rdT X cl) := ⟨L, hbind, fun A outer s H E f c' hr => (hb _ (lam_cxt c us gs hL hr)).pe _ (takes_of rfl rfl rfl rfl)⟩
  refine ⟨⟨fun pins s σ H Q I ⟨hT, h⟩ => lam_kept (T := Tbl.T) I l4 l1 (by rw [lamQ, hq]; exact l2) (by rw [lamQ, hq]; exact l3) hT hdef (L.has I.ok) fun f c' pm ctv H1 s' eN T1 nf hc I1 => ⟨.ref f, _, I1, rfl, h f H1 _ eN T1 nf ?_⟩⟩⟩
  exact ⟨params, body, scope, pm, c', ctv, Rd, upd_same, by rw [upd_ne (fun z => by rw [z, nf] at hc; cases hc)]; exact hc⟩
/-! ### the statements -/
theorem EnvR.forget {K : Frg} {H : Hp} {m : Mp} {n : Nat} {env : En} {σ : L2.St} (h : EnvR K H m n env σ) (j : Nat) (v : V) : EnvR K H m n (env.set j none) (σ.set j (some v)) := by
  refine ⟨by simp [h.len], fun i w e => ?_⟩
  by_cases z : j = i
  · subst z
    by_cases l : j < env.length
    · rw [List.getElem?_set_self l] at e; cases e
    · rw [List.getElem?_eq_none (by simpa using l)] at e; cases e
  · rw [List.getElem?_set_ne z] at e
    rw [List.getElem?_set_ne z]
    exact h.at' i w e
def tL (X : Cx) (W : WX) (kb j : Nat) (cls : List (En → Sto → Rs Wv)) (c : En → Sto → SR) : TS := fun D σ H => ∃ m0 n0 H0 m env st L fs, Fol m0 n0 H0 m st.length H ∧ ¬ Nn H0 L ∧ Sim X.K H m st ∧ EnvR X.K H0 m0 n0 env σ ∧ σ[j]? = some (some (V.ref L)) ∧ m.F L ∧ LamsAt X kb L H fs cls ∧
  (c env st).post (okN X m0 n0 H0 D) (okR X m0 n0 H0 D) (okXs X W m0 n0 H0)
structure LB (X : Cx) (kb j : Nat) (cls : List (En → Sto → Rs Wv)) (es : List Stmt) (c : En → Sto → SR) : Prop where
  pss : ∀ W, Takes X W → PSs X es (tL X W kb j cls c)
/-- slot j holds the list -/
def sLm (j : Nat) (c : En → Sto → SR) : En → Sto → SR := fun env st => if j < env.length then c (env.set j none) st else .no
theorem size1 : 1 ≤ sizeLine := Nat.le_trans (by omega) line_lim
theorem db_lams {j : Nat} {calls : Str} {lam : Expr} {es : List Stmt} {c : En → Sto → SR} (cx : Cxt M X B k) (hj : B.N[j]? = some calls) (hl : j ∈ B.ls) (h1 : LamD X kb lam cl) (h2 : LB X kb j [cl] es c)
    (hs1 : starEach [lam] X.env = (false, eval lam X.env) :: starEach [] X.env := by rfl) (hs : swapsWith (.List [lam] p2) (some (.Name calls p1)) spos.line X.env = pure false := by rfl) : DB X (.Assign [.Name calls p1] (.List [lam] p2) spos :: es) (sLm j c) := by
  obtain ⟨l1, l2⟩ := cx.loc j hl calls hj
  refine ⟨fun W tk => PSs.imp (pss_cons (ps_set (by rw [cx.hN]; exact cx.nd) (by rw [cx.hN]; exact hj) l1 (pe_lst (pa_cons h1.pe pa_nil hs1)) hs l2) (h2.pss W tk)) fun D σ H ⟨m, env, st, S, R, hp⟩ => ?_⟩
  unfold sLm at hp
  split at hp
  · rename_i lt
    refine ⟨S.tb, fun f H1 ob eN T1 nf la => ⟨size1, fun p np => ?_⟩⟩
    have f1 : Fol m st.length H m st.length H1 := .ext eN
    have g2 := grow_upd (o := .frz ob anyU) nf
    have f2 : Fol m st.length H1 m st.length (upd H1 f (.frz ob anyU)) := .same g2
    obtain ⟨S3, f3⟩ := ((S.ext eN T1).grow g2).start (D := p) (o := .lst [.ref f]) np
    have f12 := f1.trans f2
    have fp : f ≠ p := fun e => by rw [← e, upd_same] at np; cases np
    obtain ⟨params, body, scope, pm, c', ctv, Rd, hf, hc⟩ := la
    refine ⟨m, st.length, H, m.with p, env.set j none, st, p, [f], f12.trans f3, fun z => nn_no np (f12.dom p z), S3, R.forget j (.ref p), ?_, .inr rfl, ⟨upd_same, rfl, fun i g cl' e1 e2 => ?_⟩, hp⟩
    · exact List.getElem?_set_self (by rw [← R.len]; exact lt)
    · cases i with
      | succ i => simp at e1
      | zero =>
        cases e1
        cases e2
        exact ⟨params, body, scope, pm, c', ctv, Rd, by rw [upd_ne fp]; exact hf, by rw [upd_ne (fun e => by rw [e, np] at hc; cases hc)]; exact hc⟩
  · exact hp.elim
theorem lb_app {j : Nat} {calls : Str} {lam : Expr} {es : List Stmt} {c : En → Sto → SR} {apos : Pos} (cx : Cxt M X B k) (hj : B.N[j]? = some calls) (hu : j ∈ B.us) (h1 : LamD X kb lam cl) (hn : cls.length ≤ 1000) (h2 : LB X kb j (cls ++ [cl]) es c) (d1 : (calls == ("__debug__" : Str)) = false := by decide) (d2 : (calls == ("__classdict__" : Str)) = false := by decide)
    (hbase : attributeBase (.Name calls p1) "append" X.env (eval (.Name calls p1) X.env) = eval (.Name calls p1) X.env := by rfl)
    (hfew : ((backTo pos (starEach [lam] X.env)).all (fun x => !x.1) && (backToKw pos (keywordEach [] X.env)).all (fun x => x.1.isSome)
      && decide ([lam].length + ([] : List Keyword).length + (if ([] : List Keyword).isEmpty then 0 else 1) < 30)) = true := by rfl)
    (hline : (apos.endLine == pos.line) = true := by rfl) (hs : starEach [lam] X.env = (false, eval lam X.env) :: starEach [] X.env := by rfl) (hsw : swapsWith (.Call (.Attribute (.Name calls p1) "append" apos) [lam] [] pos) none spos.line X.env = pure false := by rfl) :
    LB X kb j cls (.Expr (.Call (.Attribute (.Name calls p1) "append" apos) [lam] [] pos) spos :: es) c := by
  refine ⟨fun W tk => PSs.imp (pss_cons (ps_expr (pe_bm PySem.F.plainAttrs_list PySem.F.slot_list_append PySem.F.type_list_append mt_append (pe_var (i := j) (by rw [cx.hN]; exact hj) (cx.vis j hu _ hj) d1 d2) (pa_cons h1.pe pa_nil hs) hbase hfew hline hs rfl) hsw) (h2.pss W tk)) fun D σ H ⟨m0, n0, H0, m, env, st, L, fs, F0, nL, S, R, hjv, FL, A, hp⟩ => ?_⟩
  refine ⟨.ref L, hjv, .inl ⟨rfl, _, .inl (.inl A.at')⟩, S.tb, fun f H1 ob eN T1 nf la => ?_⟩
  have f1 : Fol m st.length H m st.length H1 := .ext eN
  have g2 := grow_upd (o := .frz ob anyU) nf
  have f12 : Fol m st.length H m st.length (upd H1 f (.frz ob anyU)) := f1.trans (.same g2)
  have S2 := (S.ext eN T1).grow g2
  have A2 := A.fol S (fun i hi e => S.fi i hi (by rw [e]; exact FL)) f12
  have hLf : L ≠ f := fun e => by
    have q := A2.at'
    rw [e, upd_same] at q
    cases q
  refine ⟨L, _, .ref f, rfl, rfl, A2.at', Nat.lt_of_lt_of_le (show _ < 1001 by rw [List.length_map, A2.len]; omega) (Nat.le_trans (by omega) line_lim), ?_⟩
  have keep : ∀ {g : Addr} {t : XK → TE}, LamAt X kb g (upd H1 f (.frz ob anyU)) t → LamAt X kb g (upd (upd H1 f (.frz ob anyU)) L (.lst (fs.map V.ref ++ [.ref f]))) t := fun ⟨params, body, scope, pm, c', ctv, Rd, hf, hc⟩ =>
    ⟨params, body, scope, pm, c', ctv, Rd, by rw [upd_ne (fun e => by rw [e, A2.at'] at hf; cases hf)]; exact hf, by rw [upd_ne (fun e => by rw [e, A2.at'] at hc; cases hc)]; exact hc⟩
  have kp : Kp X.K (upd H1 f (.frz ob anyU)) (Off m st.length) (upd (upd H1 f (.frz ob anyU)) L (.lst (fs.map V.ref ++ [.ref f]))) (Off m st.length) := .push FL A2.at'
  refine ⟨m0, n0, H0, m, env, st, L, fs ++ [f], (F0.trans f12).updD nL, nL, S2.push FL A2.at', R, hjv, FL, ⟨by rw [upd_same, List.map_append]; rfl, by simp [A2.len], fun i g cl' e1 e2 => ?_⟩, hp⟩
  · by_cases z : i < fs.length
    · rw [List.getElem?_append_left z] at e1
      rw [List.getElem?_append_left (by rw [← A2.len]; exact z)] at e2
      exact keep (A2.it i g cl' e1 e2)
    · rw [List.getElem?_append_right (by omega)] at e1
      rw [List.getElem?_append_right (by rw [← A2.len]; omega)] at e2
      have i0 : i - fs.length = 0 := by
        rcases Nat.eq_zero_or_pos (i - fs.length) with h | h
        · exact h
        · rw [List.getElem?_eq_none (by simp only [List.length_singleton]; omega)] at e1; cases e1
      rw [i0] at e1
      rw [← A2.len, i0] at e2
      cases e1
      cases e2
      exact keep la
/-- the list compared, the answer handed back -/
theorem lb_retOp {j : Nat} {e e2 : Expr} {op : CmpOp} {f : PyData → PyData → Option PyData} {c2 : En → Sto → Rs Wv} (ho : OpR X (compareOp op) (rD X.K f)) (h : ∀ W, PE X e (tEL X W kb j cls (eLams T fl cls))) (h2 : DE X e2 c2) (hm : behindInMarks op e2 = false) : LB X kb j cls [.Return (some (.Compare e [op] [e2] pos)) spos] (sRet (eOp2 f (eLams T fl cls) c2)) := by
  refine ⟨fun W tk => PSs.imp (pss_one (ps_ret (pe_cmpR ho (h W) (h2.pe W tk) hm))) fun D σ H ⟨m0, n0, H0, m, env, st, L, fs, F0, nL, S, R, hjv, FL, A, hp⟩ => ?_⟩
  unfold sRet eOp2 at hp
  rw [Rs.post_sb, Rs.post_bind] at hp
  refine ⟨m, env, st, L, fs, S, R.mv F0, hjv, fun i hi e => S.fi i hi (by rw [e]; exact FL), A, Rs.post_mono hp (fun w st1 q v H1 m1 f1 S1 r1 => ?_) fun _ _ q => (okXs.tr F0 q).x⟩
  rw [Rs.post_bind] at q
  refine ⟨m1, env, st1, S1, (R.mv F0).mv f1, Rs.post_mono q (fun w2 st2 q v2 H2 m2 f2 S2 r2 => ?_) fun _ _ q => (okXs.tr (F0.trans f1) q).x⟩
  obtain ⟨d, e1, q⟩ := look1_post q
  obtain ⟨e, e2, q⟩ := look1_post q
  obtain ⟨r, e3, q⟩ := ret1_post q
  refine ⟨_, d, e, r, fun a => S2.fresh, look_rt S2 (r1.mv f2) e1, look_rt S2 r2 e2, e3, okE.out (m := m0) (H := H0) (n := n0) (Q := D.rt) ((F0.trans f1).trans f2) S2 fun v H' m' f S r => q v H' m' f S r⟩
end
end
section
variable [Wtp] [Tbl]
/-! ## try .. except X: return None -/
def sTryX (x : Str) (c : En → Sto → SR) : En → Sto → SR := fun env st => match c env st with
  | .ex e st1 => if e.name = x then .rt (.w (.d .none)) st1 else .no
  | r => r
theorem Cxt.tr {M : Md} {X : Cx} {B : Tb} {k : Nat} (c : Cxt M X B k) {pn : List (Addr × Obj)} {xe : Value → Shared → Prop} (po : PassesOwn (model X.prog X.w) X.A X.env xe) : Cxt M (X.tr pn xe) B k :=
  ⟨c.hP, c.hw, c.hK, c.mg, c.hb, c.hN, c.nd, c.calm, c.kind, c.room, c.gu, c.vis, c.loc, c.pl, c.gl, c.cs, fun _ => po, c.lam, c.fr⟩
/-- the class catches its own -/
structure Own1 (M : Md) (x : Str) (C : Addr) : Prop where
  mg : M.mg x = some (.ref C)
  own : PySem.W.exmOne M.K (.ref C) (.ref C) = some true
theorem ds_tryX {M : Md} {X : Cx} {B : Tb} {k j jn : Nat} {x : Str} {C : Addr} {body : List Stmt} {np p1 p2 p3 pos : Pos} {cb : En → Sto → SR} (c : Cxt M X B k) (hg : B.gs[j]? = some x) (O : Own1 M x C) (hb : ∀ X' : Cx, Cxt M X' B k → DB X' body cb) (hf : B.fn = true := by rfl) (hd : (x == ("__debug__" : Str)) = false := by decide) :
    DS X (.Try body [.ExceptHandler (some (.Name x np)) none [.Return (some (.Constant .none jn p1)) p2] p3] [] [] pos) (sTryX x cb) := by
  obtain ⟨h1, h2⟩ := c.fr hf
  refine ⟨fun W tk => PS.imp (ps_try_only (c := .ref C) (tb := fun W' => tS X W' cb) h1 h2 ⟨c.gl j x hg, hd, .inl (by rw [c.mg]; exact O.mg)⟩ tk (fun W' pn xe tk' po => (hb (X.tr pn xe) (c.tr po)).pss W' tk') (fun a oe cls d pn _ _ => pss_one (ps_ret pe_non))) fun D σ H ⟨m, env, st, S, R, hp⟩ => ⟨m, env, st, S, R, ?_⟩⟩
  unfold sTryX at hp
  cases q : cb env st with
  | nx env1 st1 => rw [q] at hp; exact hp
  | rt p st1 => rw [q] at hp; exact hp
  | no => rw [q] at hp; exact hp.elim
  | ex e st1 =>
    rw [q] at hp
    simp only at hp
    split at hp
    · rename_i en
      intro cls d σ' H' m' f S' r
      obtain ⟨⟨C2, hC2, rfl⟩, _⟩ := r
      rw [en, c.mg, O.mg] at hC2
      cases hC2
      exact ⟨true, by rw [c.hK]; exact O.own, fun _ a _ => hp .non H' m' f S' .non, fun z => Bool.noConfusion z⟩
    · exact hp.elim
end
section
variable [Tbl] [FnA]
def topS (i : Nat) : Stmt := PySem.Challenge.pw_bentstones_k41_rows_known.main.body.getD i (.Pass ⟨0, 0, 0, 0⟩)
def w_MOST_FAR : PyData := (.int 1000)
def w_MOST_JOINT : PyData := (.int 9)
def w_MOST_LEGS : PyData := (.int 6)
def w_MOST_LONG : PyData := (.int 60)
def w_MOST_ROWS : PyData := (.int 6)
def w_MOST_STONE : PyData := (.int 20)
def w_MOST_STONES : PyData := (.int 12)
def w_MOST_WIDTH : PyData := (.int 9)
def w_STEPS : PyData := (.tuple [(.tuple [(.int 1), (.int 0)]), (.tuple [(.int 0), (.int 1)]), (.tuple [(.int (-1)), (.int 0)]), (.tuple [(.int 0), (.int (-1))])])
def w_WAYS : PyData := (.tuple [(.str "east"), (.str "north"), (.str "west"), (.str "south")])
def y_WAYS : List Str := ["east", "north", "west", "south"]
def fldX : List (Str × List Str) := [("NoStrip", ["leg"]), ("TooGreat", ["many", "most"]), ("Short", ["shade", "batch", "long", "by"]), ("Over", ["row", "stone", "other", "second"]), ("NoText", ["word"])]
def ysX : List Str := ["Missing", "NoDrawing", "NoFit", "NoJoints", "NoLaying", "NoLine", "NoLongs", "NoLots", "NoNumber", "NoOrder", "NoPanel", "NoPath", "NoPlace", "NoRow", "NoShift", "NoSpan", "NoStock", "NoStone", "NoStrip", "NoText", "NoWants", "NoWidth", "Nothing", "Over", "Short", "TooGreat"]
@[reducible] instance theW : Wtp := ⟨[(.tuple [(.tuple [(.int 1), (.int 0)]), (.tuple [(.int 0), (.int 1)]), (.tuple [(.int (-1)), (.int 0)]), (.tuple [(.int 0), (.int (-1))])]), (.tuple [(.int 1), (.int 0)]), (.tuple [(.int 0), (.int 1)]), (.tuple [(.int (-1)), (.int 0)]), (.tuple [(.int 0), (.int (-1))]), (.tuple [(.str "east"), (.str "north"), (.str "west"), (.str "south")])]⟩
structure Hs (M : Md) : Prop where
  sm : SysM M.base
  z_ArithmeticError : M.mg "ArithmeticError" = none
  z_LookupError : M.mg "LookupError" = none
  z_RuntimeError : M.mg "RuntimeError" = none
  z_TypeError : M.mg "TypeError" = none
  z_ValueError : M.mg "ValueError" = none
  z_all : M.mg "all" = none
  z_bool : M.mg "bool" = none
  z_enumerate : M.mg "enumerate" = none
  z_int : M.mg "int" = none
  z_isinstance : M.mg "isinstance" = none
  z_len : M.mg "len" = none
  z_list : M.mg "list" = none
  z_max : M.mg "max" = none
  z_min : M.mg "min" = none
  z_range : M.mg "range" = none
  z_repr : M.mg "repr" = none
  z_str : M.mg "str" = none
  z_tuple : M.mg "tuple" = none
  z_zip : M.mg "zip" = none
  g_MOST_FAR : Gw M "MOST_FAR" w_MOST_FAR
  g_MOST_JOINT : Gw M "MOST_JOINT" w_MOST_JOINT
  g_MOST_LEGS : Gw M "MOST_LEGS" w_MOST_LEGS
  g_MOST_LONG : Gw M "MOST_LONG" w_MOST_LONG
  g_MOST_ROWS : Gw M "MOST_ROWS" w_MOST_ROWS
  g_MOST_STONE : Gw M "MOST_STONE" w_MOST_STONE
  g_MOST_STONES : Gw M "MOST_STONES" w_MOST_STONES
  g_MOST_WIDTH : Gw M "MOST_WIDTH" w_MOST_WIDTH
  g_STEPS : Gw M "STEPS" w_STEPS
  g_WAYS : Gw M "WAYS" w_WAYS
  i_WAYS : Gix M "WAYS" y_WAYS
  a_area_of : M.mg "area_of" = some (.ref (FnA.a "area_of"))
  a_first_over : M.mg "first_over" = some (.ref (FnA.a "first_over"))
  e_StoneError : ∃ C, M.mg "StoneError" = some (.ref C)
  f_NoStrip : ∃ C, XfF M "NoStrip" C ["leg"]
  e_NoJoints : ∃ C, XcA M "StoneError" ysX fldX "NoJoints" C
  e_NoPlace : ∃ C, XcA M "StoneError" ysX fldX "NoPlace" C
  e_NoRow : ∃ C, XcA M "StoneError" ysX fldX "NoRow" C
  e_NoStrip : ∃ C, XcA M "StoneError" ysX fldX "NoStrip" C
  o_NoStrip : ∃ C, Own1 M "NoStrip" C
theorem q_MOST_FAR {M : Md} {X : Cx} {B : Tb} {k : Nat} {p : Pos} (T : Hs M) (c : Cxt M X B k) (j : Nat) (h : B.gs[j]? = some "MOST_FAR") : DE X (.Name "MOST_FAR" p) (eK w_MOST_FAR) := de_gw c j h T.g_MOST_FAR
theorem q_MOST_JOINT {M : Md} {X : Cx} {B : Tb} {k : Nat} {p : Pos} (T : Hs M) (c : Cxt M X B k) (j : Nat) (h : B.gs[j]? = some "MOST_JOINT") : DE X (.Name "MOST_JOINT" p) (eK w_MOST_JOINT) := de_gw c j h T.g_MOST_JOINT
theorem q_MOST_LEGS {M : Md} {X : Cx} {B : Tb} {k : Nat} {p : Pos} (T : Hs M) (c : Cxt M X B k) (j : Nat) (h : B.gs[j]? = some "MOST_LEGS") : DE X (.Name "MOST_LEGS" p) (eK w_MOST_LEGS) := de_gw c j h T.g_MOST_LEGS
theorem q_MOST_LONG {M : Md} {X : Cx} {B : Tb} {k : Nat} {p : Pos} (T : Hs M) (c : Cxt M X B k) (j : Nat) (h : B.gs[j]? = some "MOST_LONG") : DE X (.Name "MOST_LONG" p) (eK w_MOST_LONG) := de_gw c j h T.g_MOST_LONG
theorem q_MOST_ROWS {M : Md} {X : Cx} {B : Tb} {k : Nat} {p : Pos} (T : Hs M) (c : Cxt M X B k) (j : Nat) (h : B.gs[j]? = some "MOST_ROWS") : DE X (.Name "MOST_ROWS" p) (eK w_MOST_ROWS) := de_gw c j h T.g_MOST_ROWS
theorem q_MOST_STONE {M : Md} {X : Cx} {B : Tb} {k : Nat} {p : Pos} (T : Hs M) (c : Cxt M X B k) (j : Nat) (h : B.gs[j]? = some "MOST_STONE") : DE X (.Name "MOST_STONE" p) (eK w_MOST_STONE) := de_gw c j h T.g_MOST_STONE
theorem q_MOST_STONES {M : Md} {X : Cx} {B : Tb} {k : Nat} {p : Pos} (T : Hs M) (c : Cxt M X B k) (j : Nat) (h : B.gs[j]? = some "MOST_STONES") : DE X (.Name "MOST_STONES" p) (eK w_MOST_STONES) := de_gw c j h T.g_MOST_STONES
theorem q_MOST_WIDTH {M : Md} {X : Cx} {B : Tb} {k : Nat} {p : Pos} (T : Hs M) (c : Cxt M X B k) (j : Nat) (h : B.gs[j]? = some "MOST_WIDTH") : DE X (.Name "MOST_WIDTH" p) (eK w_MOST_WIDTH) := de_gw c j h T.g_MOST_WIDTH
theorem q_STEPS {M : Md} {X : Cx} {B : Tb} {k : Nat} {p : Pos} (T : Hs M) (c : Cxt M X B k) (j : Nat) (h : B.gs[j]? = some "STEPS") : DE X (.Name "STEPS" p) (eK w_STEPS) := de_gw c j h T.g_STEPS
theorem q_WAYS {M : Md} {X : Cx} {B : Tb} {k : Nat} {p : Pos} (T : Hs M) (c : Cxt M X B k) (j : Nat) (h : B.gs[j]? = some "WAYS") : DE X (.Name "WAYS" p) (eK w_WAYS) := de_gw c j h T.g_WAYS
theorem ix_WAYS {M : Md} {X : Cx} {B : Tb} {k : Nat} {p1 apos pos : Pos} {e : Expr} {cs : En → Sto → Rs (List Wv)} (T : Hs M) (c : Cxt M X B k) (j : Nat) (h : B.gs[j]? = some "WAYS") (ha : DA X [e] cs)
    (hfew : ((backTo pos (starEach [e] X.env)).all (fun x => !x.1) && (backToKw pos (keywordEach [] X.env)).all (fun x => x.1.isSome)
      && decide ([e].length + ([] : List Keyword).length + (if ([] : List Keyword).isEmpty then 0 else 1) < 30)) = true := by rfl)
    (hline : (apos.endLine == pos.line) = true := by rfl) (hs : starEach [e] X.env = (false, eval e X.env) :: starEach [] X.env := by rfl) : DE X (.Call (.Attribute (.Name "WAYS" p1) "index" apos) [e] [] pos) (eGix y_WAYS cs) := de_gix c j h T.i_WAYS ha hfew hline hs
abbrev s__law_pen_of : Stmt := topS 78
def B__law_pen_of : Tb := ⟨["_law_cell", "_law_left"], [0, 1], [0, 1], [0, 1], ["max", "int"], [], true, false, none⟩
theorem sc__law_pen_of : FnScope B__law_pen_of.N ["_law_cell"] (defScope s__law_pen_of) := ⟨rfl, rfl, rfl, by decide +kernel, rfl, by decide +kernel, by decide +kernel⟩
theorem t__law_pen_of : fnT B__law_pen_of (defScope s__law_pen_of) = true := by decide +kernel
noncomputable def d__law_pen_of : En → Sto → SR :=
    (sSeq (sSet 1 (eOpN max2F (aCons (eVar 0) (aCons (eOp2 subD (eK (.int 0)) (eVar 0)) aNil))))
    (sRet (eNewL (aCons (eVar 1) (aCons (eOpN intF (aCons (eOp2 geD (eVar 1) (eOp2 powD (eK (.int 10)) (eK (.int 18)))) aNil)) (aCons (eOp2 modD (eVar 1) (eK (.int 1000003))) aNil))))))
noncomputable def m__law_pen_of : List Wv → Sto → Rs Wv := mkF 1 2 d__law_pen_of
theorem b__law_pen_of {M : Md} {X : Cx} (T : Hs M)  (c : Cxt M X B__law_pen_of 0) : DB X (defBody s__law_pen_of) d__law_pen_of :=
    (db_cons (ds_set c 1 rfl (by decide) (de_callB (id := "max") c (c_max2 c.calm) 0 rfl T.z_max (by decide +kernel) (da_cons (de_var c 0 rfl (by decide)) (da_cons (de_bin o_sub de_int (de_var c 0 rfl (by decide))) da_nil))))
    (db_one (ds_ret (de_newl (da_cons (de_var c 1 rfl (by decide)) (da_cons (de_callT (T := "int") c c_int 1 rfl T.z_int (by decide +kernel) (da_cons (de_cmp (o_ge c.roomH) (de_var c 1 rfl (by decide)) (de_bin o_pow de_int de_int) (nomark _)) da_nil)) (da_cons (de_bin o_mod (de_var c 1 rfl (by decide)) de_int) da_nil)))))))
theorem h__law_pen_of {M : Md} (T : Hs M)  (F : TopFn M "_law_pen_of" s__law_pen_of ["_law_cell"]) : Has M false 1 "_law_pen_of" ["_law_cell"] m__law_pen_of := has_of F sc__law_pen_of t__law_pen_of rfl rfl (fun X c => b__law_pen_of T  c)
abbrev s__law_step : Stmt := topS 81
def B__law_step : Tb := ⟨["_law_way"], [0], [0], [0], [], [], true, false, none⟩
theorem sc__law_step : FnScope B__law_step.N ["_law_way"] (defScope s__law_step) := ⟨rfl, rfl, rfl, by decide +kernel, rfl, by decide +kernel, by decide +kernel⟩
theorem t__law_step : fnT B__law_step (defScope s__law_step) = true := by decide +kernel
noncomputable def d__law_step : En → Sto → SR :=
    (sRet (eOp2 ixD (eDic (aCons (eK (.str "east")) (aCons (eTup (aCons (eK (.int 1)) (aCons (eK (.int 0)) aNil))) (aCons (eK (.str "north")) (aCons (eTup (aCons (eK (.int 0)) (aCons (eK (.int 1)) aNil))) (aCons (eK (.str "west")) (aCons (eTup (aCons (eOp1 negD (eK (.int 1))) (aCons (eK (.int 0)) aNil))) (aCons (eK (.str "south")) (aCons (eTup (aCons (eK (.int 0)) (aCons (eOp1 negD (eK (.int 1))) aNil))) aNil))))))))) (eVar 0)))
noncomputable def m__law_step : List Wv → Sto → Rs Wv := mkF 1 1 d__law_step
theorem b__law_step {M : Md} {X : Cx} (T : Hs M)  (c : Cxt M X B__law_step 0) : DB X (defBody s__law_step) d__law_step :=
    (db_one (ds_ret (de_ix c.roomH (de_dic (dp_cons de_str (de_tup (da_cons de_int (da_cons de_int da_nil))) (dp_cons de_str (de_tup (da_cons de_int (da_cons de_int da_nil))) (dp_cons de_str (de_tup (da_cons (de_un o_neg de_int) (da_cons de_int da_nil))) (dp_cons de_str (de_tup (da_cons de_int (da_cons (de_un o_neg de_int) da_nil))) dp_nil))))) (de_var c 0 rfl (by decide)) (fun _ _ => rfl))))
theorem h__law_step {M : Md} (T : Hs M)  (F : TopFn M "_law_step" s__law_step ["_law_way"]) : Has M false 1 "_law_step" ["_law_way"] m__law_step := has_of F sc__law_step t__law_step rfl rfl (fun X c => b__law_step T  c)
abbrev s__law_side : Stmt := topS 82
def B__law_side : Tb := ⟨["_law_one", "_law_other", "_law_a", "_law_b"], [0, 1, 2, 3], [0, 1, 2, 3], [0, 1, 2, 3], ["_law_step"], [], true, false, none⟩
theorem sc__law_side : FnScope B__law_side.N ["_law_one", "_law_other"] (defScope s__law_side) := ⟨rfl, rfl, rfl, by decide +kernel, rfl, by decide +kernel, by decide +kernel⟩
theorem t__law_side : fnT B__law_side (defScope s__law_side) = true := by decide +kernel
noncomputable def d__law_side : En → Sto → SR :=
    (sSeq (sPar2 2 3 (aCons (eCall m__law_step (aCons (eVar 0) aNil)) (aCons (eCall m__law_step (aCons (eVar 1) aNil)) aNil)))
    (sRet (eIf (tBl (eOp2 eqD (eOp2 subD (eOp2 mulD (eOp2 ixD (eVar 2) (eK (.int 0))) (eOp2 ixD (eVar 3) (eK (.int 1)))) (eOp2 mulD (eOp2 ixD (eVar 2) (eK (.int 1))) (eOp2 ixD (eVar 3) (eK (.int 0))))) (eK (.int 1)))) (eK (.str "left")) (eK (.str "right")))))
noncomputable def m__law_side : List Wv → Sto → Rs Wv := mkF 2 4 d__law_side
theorem b__law_side {M : Md} {X : Cx} (T : Hs M) (h__law_step : Has M false 1 "_law_step" ["_law_way"] m__law_step) (c : Cxt M X B__law_side 1) : DB X (defBody s__law_side) d__law_side :=
    (db_cons (ds_par2 c 2 3 rfl rfl (by decide) (isLoc c (i := 2) (by decide) rfl) (isLoc c (i := 3) (by decide) rfl) (da_cons (de_fn c (h__law_step.up (by decide)) 0 rfl (da_cons (de_var c 0 rfl (by decide)) da_nil)) (da_cons (de_fn c (h__law_step.up (by decide)) 0 rfl (da_cons (de_var c 1 rfl (by decide)) da_nil)) da_nil)) (sw2 c (i := 2) (j := 3) rfl rfl (by decide) (by decide) (by decide +kernel) rfl rfl (by intro _ _ h; cases h) (by intro _ _ h; cases h) rfl rfl))
    (db_one (ds_ret (de_if (dt_cmp (o_eq c.roomH) (de_bin o_sub (de_bin o_mul (de_ix c.roomH (de_var c 2 rfl (by decide)) de_int (fun _ _ => rfl)) (de_ix c.roomH (de_var c 3 rfl (by decide)) de_int (fun _ _ => rfl))) (de_bin o_mul (de_ix c.roomH (de_var c 2 rfl (by decide)) de_int (fun _ _ => rfl)) (de_ix c.roomH (de_var c 3 rfl (by decide)) de_int (fun _ _ => rfl)))) de_int (nomark _)) de_str de_str))))
theorem h__law_side {M : Md} (T : Hs M) (h__law_step : Has M false 1 "_law_step" ["_law_way"] m__law_step) (F : TopFn M "_law_side" s__law_side ["_law_one", "_law_other"]) : Has M false 2 "_law_side" ["_law_one", "_law_other"] m__law_side := has_of F sc__law_side t__law_side rfl rfl (fun X c => b__law_side T h__law_step c)
abbrev s__law_strips : Stmt := topS 83
def B__law_strips : Tb := ⟨["_law_path_here", "_law_width", "_law_x", "_law_y", "_law_legs", "_law_found", "_law_k", "_law_way", "_law_long", "_law_a", "_law_b", "_law_begin", "_law_end"], [0, 1, 2, 3, 4, 5, 6, 7, 8, 9, 10, 11, 12], [0, 1, 2, 3, 4, 5, 6, 7, 8, 9, 10, 11, 12], [0, 1, 2, 3, 4, 5, 6, 7, 8, 9, 10, 11, 12], ["enumerate", "_law_step", "_law_side", "len"], [], true, false, none⟩
theorem sc__law_strips : FnScope B__law_strips.N ["_law_path_here", "_law_width"] (defScope s__law_strips) := ⟨rfl, rfl, rfl, by decide +kernel, rfl, by decide +kernel, by decide +kernel⟩
theorem t__law_strips : fnT B__law_strips (defScope s__law_strips) = true := by decide +kernel
noncomputable def d__law_strips_l1 : En → Sto → SR :=
    (sSeq (sAsg (gTp (gCn (gN 9) (gCn (gN 10) gNl))) (eCall m__law_step (aCons (eVar 7) aNil)))
    (sSeq (sPar2 11 12 (aCons (eK (.int 0)) (aCons (eVar 8) aNil)))
    (sSeq (sIf (tAnd2 (tBl (eOp2 gtD (eVar 6) (eK (.int 0)))) (tBl (eOp2 eqD (eCall m__law_side (aCons (eOp2 ixD (eOp2 ixD (eVar 4) (eOp2 subD (eVar 6) (eK (.int 1)))) (eK (.int 0))) (aCons (eVar 7) aNil))) (eK (.str "left"))))) (sSet 11 (eVar 1)) sNil)
    (sSeq (sIf (tAnd2 (tBl (eOp2 ltD (eOp2 addD (eVar 6) (eK (.int 1))) (eOpN lenF (aCons (eVar 4) aNil)))) (tBl (eOp2 eqD (eCall m__law_side (aCons (eVar 7) (aCons (eOp2 ixD (eOp2 ixD (eVar 4) (eOp2 addD (eVar 6) (eK (.int 1)))) (eK (.int 0))) aNil))) (eK (.str "right"))))) (sSet 12 (eOp2 addD (eVar 8) (eVar 1))) sNil)
    (sSeq (sIf (tBl (eOp2 leD (eVar 12) (eVar 11))) (sRet (eVar 6)) sNil)
    (sSeq (sExp (eM appW (eVar 5) (aCons (eTup (aCons (eOp2 addD (eVar 2) (eOp2 mulD (eVar 11) (eVar 9))) (aCons (eOp2 addD (eVar 3) (eOp2 mulD (eVar 11) (eVar 10))) (aCons (eVar 7) (aCons (eOp2 subD (eVar 12) (eVar 11)) aNil))))) aNil)))
    (sPar2 2 3 (aCons (eOp2 addD (eVar 2) (eOp2 mulD (eVar 8) (eVar 9))) (aCons (eOp2 addD (eVar 3) (eOp2 mulD (eVar 8) (eVar 10))) aNil)))))))))
noncomputable def d__law_strips : En → Sto → SR :=
    (sSeq (sAsg (gTp (gCn (gN 2) (gCn (gN 3) (gCn (gN 4) gNl)))) (eVar 0))
    (sSeq (sSet 5 (eNewL aNil))
    (sSeq (sFor (cEnum (aCons (eVar 4) aNil)) (gTp (gCn (gN 6) (gCn (gTp (gCn (gN 7) (gCn (gN 8) gNl))) gNl))) d__law_strips_l1)
    (sRetF (eVar 5)))))
noncomputable def m__law_strips : List Wv → Sto → Rs Wv := mkF 2 13 d__law_strips
theorem b__law_strips {M : Md} {X : Cx} (T : Hs M) (h__law_side : Has M false 2 "_law_side" ["_law_one", "_law_other"] m__law_side) (h__law_step : Has M false 1 "_law_step" ["_law_way"] m__law_step) (c : Cxt M X B__law_strips 2) : DB X (defBody s__law_strips) d__law_strips :=
    (db_cons (ds_asg (de_var c 0 rfl (by decide)) (dg_tup c (dgs_cons (dg_name c [2, 3, 4] 2 rfl (by decide) (by decide)) (dgs_cons (dg_name c [2, 3, 4] 3 rfl (by decide) (by decide)) (dgs_cons (dg_name c [2, 3, 4] 4 rfl (by decide) (by decide)) (dgs_nil [2, 3, 4])))) (asks_cons (asks_cons (asks_cons asks_nil)))))
    (db_cons (ds_set c 5 rfl (by decide) (de_newl da_nil))
    (db_cons (ds_for c [6, 7, 8] (di_enum c 0 rfl T.z_enumerate (da_cons (de_var c 4 rfl (by decide)) da_nil)) (dg_tup c (dgs_cons (dg_name c [6, 7, 8] 6 rfl (by decide) (by decide)) (dgs_cons (dg_tup c (dgs_cons (dg_name c [6, 7, 8] 7 rfl (by decide) (by decide)) (dgs_cons (dg_name c [6, 7, 8] 8 rfl (by decide) (by decide)) (dgs_nil [6, 7, 8]))) (asks_cons (asks_cons asks_nil))) (dgs_nil [6, 7, 8]))) (asks_cons (asks_cons asks_nil)))
    (db_cons (ds_asg (de_fn c (h__law_step.up (by decide)) 1 rfl (da_cons (de_var c 7 rfl (by decide)) da_nil)) (dg_tup c (dgs_cons (dg_name c [9, 10] 9 rfl (by decide) (by decide)) (dgs_cons (dg_name c [9, 10] 10 rfl (by decide) (by decide)) (dgs_nil [9, 10]))) (asks_cons (asks_cons asks_nil))))
    (db_cons (ds_par2 c 11 12 rfl rfl (by decide) (isLoc c (i := 11) (by decide) rfl) (isLoc c (i := 12) (by decide) rfl) (da_cons de_int (da_cons (de_var c 8 rfl (by decide)) da_nil)) (sw2 c (i := 11) (j := 12) rfl rfl (by decide) (by decide) (by decide +kernel) rfl rfl (by intro _ _ h; cases h) (by intro _ _ h; cases h) rfl rfl))
    (db_cons (ds_if (DW.dt (dw_and (dt_cmp (o_gt c.roomH) (de_var c 6 rfl (by decide)) de_int (nomark _)) (dw_and1 (dt_cmp (o_eq c.roomH) (de_fn c (h__law_side.up (by decide)) 2 rfl (da_cons (de_ix c.roomH (de_ix c.roomH (de_var c 4 rfl (by decide)) (de_bin o_sub (de_var c 6 rfl (by decide)) de_int) (fun _ _ => rfl)) de_int (fun _ _ => rfl)) (da_cons (de_var c 7 rfl (by decide)) da_nil))) de_str (nomark _))))) (db_one (ds_set c 11 rfl (by decide) (de_var c 1 rfl (by decide)))) db_nil)
    (db_cons (ds_if (DW.dt (dw_and (dt_cmp (o_lt c.roomH) (de_bin o_add (de_var c 6 rfl (by decide)) de_int) (de_callB (id := "len") c c_len 3 rfl T.z_len (by decide +kernel) (da_cons (de_var c 4 rfl (by decide)) da_nil)) (nomark _)) (dw_and1 (dt_cmp (o_eq c.roomH) (de_fn c (h__law_side.up (by decide)) 2 rfl (da_cons (de_var c 7 rfl (by decide)) (da_cons (de_ix c.roomH (de_ix c.roomH (de_var c 4 rfl (by decide)) (de_bin o_add (de_var c 6 rfl (by decide)) de_int) (fun _ _ => rfl)) de_int (fun _ _ => rfl)) da_nil))) de_str (nomark _))))) (db_one (ds_set c 12 rfl (by decide) (de_bin o_add (de_var c 8 rfl (by decide)) (de_var c 1 rfl (by decide))))) db_nil)
    (db_cons (ds_if (dt_cmp (o_le c.roomH) (de_var c 12 rfl (by decide)) (de_var c 11 rfl (by decide)) (nomark _)) (db_one (ds_ret (de_var c 6 rfl (by decide)))) db_nil)
    (db_cons (ds_exp (de_append (de_var c 5 rfl (by decide)) (da_cons (de_tup (da_cons (de_bin o_add (de_var c 2 rfl (by decide)) (de_bin o_mul (de_var c 11 rfl (by decide)) (de_var c 9 rfl (by decide)))) (da_cons (de_bin o_add (de_var c 3 rfl (by decide)) (de_bin o_mul (de_var c 11 rfl (by decide)) (de_var c 10 rfl (by decide)))) (da_cons (de_var c 7 rfl (by decide)) (da_cons (de_bin o_sub (de_var c 12 rfl (by decide)) (de_var c 11 rfl (by decide))) da_nil))))) da_nil)))
    (db_one (ds_par2 c 2 3 rfl rfl (by decide) (isLoc c (i := 2) (by decide) rfl) (isLoc c (i := 3) (by decide) rfl) (da_cons (de_bin o_add (de_var c 2 rfl (by decide)) (de_bin o_mul (de_var c 8 rfl (by decide)) (de_var c 9 rfl (by decide)))) (da_cons (de_bin o_add (de_var c 3 rfl (by decide)) (de_bin o_mul (de_var c 8 rfl (by decide)) (de_var c 10 rfl (by decide)))) da_nil)) (sw2 c (i := 2) (j := 3) rfl rfl (by decide) (by decide) (by decide +kernel) rfl rfl (by intro _ _ h; cases h) (by intro _ _ h; cases h) rfl rfl))))))))))
    (db_one (ds_retf (de_var c 5 rfl (by decide)))))))
theorem h__law_strips {M : Md} (T : Hs M) (h__law_side : Has M false 2 "_law_side" ["_law_one", "_law_other"] m__law_side) (h__law_step : Has M false 1 "_law_step" ["_law_way"] m__law_step) (F : TopFn M "_law_strips" s__law_strips ["_law_path_here", "_law_width"]) : Has M false 3 "_law_strips" ["_law_path_here", "_law_width"] m__law_strips := has_of F sc__law_strips t__law_strips rfl rfl (fun X c => b__law_strips T h__law_side h__law_step c)
abbrev s__law_next : Stmt := topS 77
def B__law_next : Tb := ⟨["_law_seed"], [0], [0], [0], [], [], true, false, none⟩
theorem sc__law_next : FnScope B__law_next.N ["_law_seed"] (defScope s__law_next) := ⟨rfl, rfl, rfl, by decide +kernel, rfl, by decide +kernel, by decide +kernel⟩
theorem t__law_next : fnT B__law_next (defScope s__law_next) = true := by decide +kernel
noncomputable def d__law_next : En → Sto → SR :=
    (sSeq (sSet 0 (eOp2 modD (eOp2 addD (eVar 0) (eK (.int 7919))) (eK (.int 2147483647))))
    (sRet (eOp2 modD (eOp2 addD (eOp2 addD (eOp2 mulD (eVar 0) (eVar 0)) (eOp2 mulD (eK (.int 48271)) (eVar 0))) (eK (.int 12345))) (eK (.int 2147483629)))))
noncomputable def m__law_next : List Wv → Sto → Rs Wv := mkF 1 1 d__law_next
theorem b__law_next {M : Md} {X : Cx} (T : Hs M)  (c : Cxt M X B__law_next 0) : DB X (defBody s__law_next) d__law_next :=
    (db_cons (ds_set c 0 rfl (by decide) (de_bin o_mod (de_bin o_add (de_var c 0 rfl (by decide)) de_int) de_int))
    (db_one (ds_ret (de_bin o_mod (de_bin o_add (de_bin o_add (de_bin o_mul (de_var c 0 rfl (by decide)) (de_var c 0 rfl (by decide))) (de_bin o_mul de_int (de_var c 0 rfl (by decide)))) de_int) de_int))))
theorem h__law_next {M : Md} (T : Hs M)  (F : TopFn M "_law_next" s__law_next ["_law_seed"]) : Has M false 1 "_law_next" ["_law_seed"] m__law_next := has_of F sc__law_next t__law_next rfl rfl (fun X c => b__law_next T  c)
abbrev s__law_draw : Stmt := topS 79
def B__law_draw : Tb := ⟨["_law_pen", "_law_many", "_law_found"], [0, 1, 2], [0, 1, 2], [0, 1, 2], ["_law_next"], [], true, false, none⟩
theorem sc__law_draw : FnScope B__law_draw.N ["_law_pen", "_law_many"] (defScope s__law_draw) := ⟨rfl, rfl, rfl, by decide +kernel, rfl, by decide +kernel, by decide +kernel⟩
theorem t__law_draw : fnT B__law_draw (defScope s__law_draw) = true := by decide +kernel
noncomputable def d__law_draw : En → Sto → SR :=
    (sSeq (sIf (tAnd2 (tBl (eOp2 eqD (eOp2 ixD (eVar 0) (eK (.int 1))) (eK (.int 1)))) (tBl (eOp2 gtD (eOp2 ixD (eVar 0) (eK (.int 0))) (eK (.int 0))))) (sSeq (sSet 2 (eOp2 modD (eOp2 ixD (eVar 0) (eK (.int 0))) (eVar 1)))
    (sSeq (sIx (eVar 0) (eK (.int 0)) (eOp2 divD (eOp2 ixD (eVar 0) (eK (.int 0))) (eVar 1)))
    (sRet (eVar 2)))) sNil)
    (sSeq (sIx (eVar 0) (eK (.int 2)) (eCall m__law_next (aCons (eOp2 addD (eCall m__law_next (aCons (eOp2 ixD (eVar 0) (eK (.int 2))) aNil)) (eK (.int 7))) aNil)))
    (sRet (eOp2 modD (eOp2 divD (eOp2 ixD (eVar 0) (eK (.int 2))) (eK (.int 64))) (eVar 1)))))
noncomputable def m__law_draw : List Wv → Sto → Rs Wv := mkF 2 3 d__law_draw
theorem b__law_draw {M : Md} {X : Cx} (T : Hs M) (h__law_next : Has M false 1 "_law_next" ["_law_seed"] m__law_next) (c : Cxt M X B__law_draw 1) : DB X (defBody s__law_draw) d__law_draw :=
    (db_cons (ds_if (DW.dt (dw_and (dt_cmp (o_eq c.roomH) (de_ix c.roomH (de_var c 0 rfl (by decide)) de_int (fun _ _ => rfl)) de_int (nomark _)) (dw_and1 (dt_cmp (o_gt c.roomH) (de_ix c.roomH (de_var c 0 rfl (by decide)) de_int (fun _ _ => rfl)) de_int (nomark _))))) (db_cons (ds_set c 2 rfl (by decide) (de_bin o_mod (de_ix c.roomH (de_var c 0 rfl (by decide)) de_int (fun _ _ => rfl)) (de_var c 1 rfl (by decide))))
    (db_cons (ds_setix c (de_var c 0 rfl (by decide)) de_int (de_bin o_div (de_ix c.roomH (de_var c 0 rfl (by decide)) de_int (fun _ _ => rfl)) (de_var c 1 rfl (by decide))))
    (db_one (ds_ret (de_var c 2 rfl (by decide)))))) db_nil)
    (db_cons (ds_setix c (de_var c 0 rfl (by decide)) de_int (de_fn c (h__law_next.up (by decide)) 0 rfl (da_cons (de_bin o_add (de_fn c (h__law_next.up (by decide)) 0 rfl (da_cons (de_ix c.roomH (de_var c 0 rfl (by decide)) de_int (fun _ _ => rfl)) da_nil)) de_int) da_nil)))
    (db_one (ds_ret (de_bin o_mod (de_bin o_div (de_ix c.roomH (de_var c 0 rfl (by decide)) de_int (fun _ _ => rfl)) de_int) (de_var c 1 rfl (by decide)))))))
theorem h__law_draw {M : Md} (T : Hs M) (h__law_next : Has M false 1 "_law_next" ["_law_seed"] m__law_next) (F : TopFn M "_law_draw" s__law_draw ["_law_pen", "_law_many"]) : Has M false 2 "_law_draw" ["_law_pen", "_law_many"] m__law_draw := has_of F sc__law_draw t__law_draw rfl rfl (fun X c => b__law_draw T h__law_next c)
abbrev s__law_path : Stmt := topS 80
def B__law_path : Tb := ⟨["_law_pen", "_law_mode", "_law_many", "_law_ways", "_law_at", "_law_legs", "_law_turn"], [0, 1, 2, 3, 4, 5, 6], [0, 1, 2, 3, 4, 5, 6], [0, 1, 2, 3, 4, 5, 6], ["_law_draw", "range", "tuple"], [], true, false, none⟩
theorem sc__law_path : FnScope B__law_path.N ["_law_pen"] (defScope s__law_path) := ⟨rfl, rfl, rfl, by decide +kernel, rfl, by decide +kernel, by decide +kernel⟩
theorem t__law_path : fnT B__law_path (defScope s__law_path) = true := by decide +kernel
noncomputable def d__law_path_l1 : En → Sto → SR :=
    (sSeq (sExp (eM appW (eVar 5) (aCons (eTup (aCons (eOp2 ixD (eVar 3) (eVar 4)) (aCons (eOp2 addD (eK (.int 1)) (eCall m__law_draw (aCons (eVar 0) (aCons (eOp2 ixD (eLst (aCons (eK (.int 6)) (aCons (eK (.int 20)) (aCons (eK (.int 60)) aNil)))) (eVar 1)) aNil)))) aNil))) aNil)))
    (sSet 4 (eOp2 modD (eOp2 addD (eOp2 addD (eVar 4) (eK (.int 1))) (eOp2 mulD (eK (.int 2)) (eCall m__law_draw (aCons (eVar 0) (aCons (eK (.int 2)) aNil))))) (eK (.int 4)))))
noncomputable def d__law_path : En → Sto → SR :=
    (sSeq (sPar2 1 2 (aCons (eCall m__law_draw (aCons (eVar 0) (aCons (eK (.int 3)) aNil))) (aCons (eOp2 addD (eK (.int 1)) (eCall m__law_draw (aCons (eVar 0) (aCons (eK (.int 6)) aNil)))) aNil)))
    (sSeq (sSet 3 (eLst (aCons (eK (.str "east")) (aCons (eK (.str "north")) (aCons (eK (.str "west")) (aCons (eK (.str "south")) aNil))))))
    (sSeq (sPar2 4 5 (aCons (eCall m__law_draw (aCons (eVar 0) (aCons (eK (.int 4)) aNil))) (aCons (eNewL aNil) aNil)))
    (sSeq (sFor (cRg1 (aCons (eVar 2) aNil)) (gN 6) d__law_path_l1)
    (sRet (eTup (aCons (eOp2 subD (eCall m__law_draw (aCons (eVar 0) (aCons (eK (.int 61)) aNil))) (eK (.int 30))) (aCons (eOp2 subD (eCall m__law_draw (aCons (eVar 0) (aCons (eK (.int 61)) aNil))) (eK (.int 30))) (aCons (eOpN tupF (aCons (eVar 5) aNil)) aNil)))))))))
noncomputable def m__law_path : List Wv → Sto → Rs Wv := mkF 1 7 d__law_path
theorem b__law_path {M : Md} {X : Cx} (T : Hs M) (h__law_draw : Has M false 2 "_law_draw" ["_law_pen", "_law_many"] m__law_draw) (c : Cxt M X B__law_path 2) : DB X (defBody s__law_path) d__law_path :=
    (db_cons (ds_par2 c 1 2 rfl rfl (by decide) (isLoc c (i := 1) (by decide) rfl) (isLoc c (i := 2) (by decide) rfl) (da_cons (de_fn c (h__law_draw.up (by decide)) 0 rfl (da_cons (de_var c 0 rfl (by decide)) (da_cons de_int da_nil))) (da_cons (de_bin o_add de_int (de_fn c (h__law_draw.up (by decide)) 0 rfl (da_cons (de_var c 0 rfl (by decide)) (da_cons de_int da_nil)))) da_nil)) (sw2 c (i := 1) (j := 2) rfl rfl (by decide) (by decide) (by decide +kernel) rfl rfl (by intro _ _ h; cases h) (by intro _ _ h; cases h) rfl rfl))
    (db_cons (ds_set c 3 rfl (by decide) (de_lst (da_cons de_str (da_cons de_str (da_cons de_str (da_cons de_str da_nil))))))
    (db_cons (ds_par2 c 4 5 rfl rfl (by decide) (isLoc c (i := 4) (by decide) rfl) (isLoc c (i := 5) (by decide) rfl) (da_cons (de_fn c (h__law_draw.up (by decide)) 0 rfl (da_cons (de_var c 0 rfl (by decide)) (da_cons de_int da_nil))) (da_cons (de_newl da_nil) da_nil)) (sw2 c (i := 4) (j := 5) rfl rfl (by decide) (by decide) (by decide +kernel) rfl rfl (by intro _ _ h; cases h) (by intro _ _ h; cases h) rfl rfl))
    (db_cons (ds_for c [6] (di_range1 c 1 rfl T.z_range (da_cons (de_var c 2 rfl (by decide)) da_nil)) (dg_name c [6] 6 rfl (by decide) (by decide))
    (db_cons (ds_exp (de_append (de_var c 5 rfl (by decide)) (da_cons (de_tup (da_cons (de_ix c.roomH (de_var c 3 rfl (by decide)) (de_var c 4 rfl (by decide)) (fun _ _ => rfl)) (da_cons (de_bin o_add de_int (de_fn c (h__law_draw.up (by decide)) 0 rfl (da_cons (de_var c 0 rfl (by decide)) (da_cons (de_ix c.roomH (de_lst (da_cons de_int (da_cons de_int (da_cons de_int da_nil)))) (de_var c 1 rfl (by decide)) (fun _ _ => rfl)) da_nil)))) da_nil))) da_nil)))
    (db_one (ds_set c 4 rfl (by decide) (de_bin o_mod (de_bin o_add (de_bin o_add (de_var c 4 rfl (by decide)) de_int) (de_bin o_mul de_int (de_fn c (h__law_draw.up (by decide)) 0 rfl (da_cons (de_var c 0 rfl (by decide)) (da_cons de_int da_nil))))) de_int)))))
    (db_one (ds_ret (de_tup (da_cons (de_bin o_sub (de_fn c (h__law_draw.up (by decide)) 0 rfl (da_cons (de_var c 0 rfl (by decide)) (da_cons de_int da_nil))) de_int) (da_cons (de_bin o_sub (de_fn c (h__law_draw.up (by decide)) 0 rfl (da_cons (de_var c 0 rfl (by decide)) (da_cons de_int da_nil))) de_int) (da_cons (de_callT (T := "tuple") c c_tup 2 rfl T.z_tuple (by decide +kernel) (da_cons (de_var c 5 rfl (by decide)) da_nil)) da_nil))))))))))
theorem h__law_path {M : Md} (T : Hs M) (h__law_draw : Has M false 2 "_law_draw" ["_law_pen", "_law_many"] m__law_draw) (F : TopFn M "_law_path" s__law_path ["_law_pen"]) : Has M false 3 "_law_path" ["_law_pen"] m__law_path := has_of F sc__law_path t__law_path rfl rfl (fun X c => b__law_path T h__law_draw c)
abbrev s__law_stones : Stmt := topS 84
def B__law_stones : Tb := ⟨["_law_pen", "_law_long", "_law_found", "_law_at", "_law_here"], [0, 1, 2, 3, 4], [0, 1, 2, 3, 4], [0, 1, 2, 3, 4], ["_law_draw", "len", "min", "tuple"], [], true, false, none⟩
theorem sc__law_stones : FnScope B__law_stones.N ["_law_pen", "_law_long"] (defScope s__law_stones) := ⟨rfl, rfl, rfl, by decide +kernel, rfl, by decide +kernel, by decide +kernel⟩
theorem t__law_stones : fnT B__law_stones (defScope s__law_stones) = true := by decide +kernel
noncomputable def d__law_stones : En → Sto → SR :=
    (sSeq (sPar2 2 3 (aCons (eNewL aNil) (aCons (eOp2 mulD (eCall m__law_draw (aCons (eVar 0) (aCons (eK (.int 3)) aNil))) (eCall m__law_draw (aCons (eVar 0) (aCons (eK (.int 2)) aNil)))) aNil)))
    (sSeq (sWh 100000 (tAnd2 (tBl (eOp2 ltD (eVar 3) (eVar 1))) (tBl (eOp2 ltD (eOpN lenF (aCons (eVar 2) aNil)) (eK (.int 12))))) (sWp [4] (sSeq (sSet 4 (eOp2 addD (eK (.int 1)) (eCall m__law_draw (aCons (eVar 0) (aCons (eOpN min2F (aCons (eK (.int 20)) (aCons (eOp2 subD (eVar 1) (eVar 3)) aNil))) aNil)))))
    (sSeq (sExp (eM appW (eVar 2) (aCons (eTup (aCons (eVar 3) (aCons (eVar 4) aNil))) aNil)))
    (sSet 3 (eOp2 addD (eOp2 addD (eVar 3) (eVar 4)) (eOp2 ixD (eLst (aCons (eK (.int 0)) (aCons (eK (.int 1)) (aCons (eK (.int 2)) (aCons (eK (.int 9)) aNil))))) (eCall m__law_draw (aCons (eVar 0) (aCons (eK (.int 4)) aNil))))))))))
    (sRet (eIf (tBl (eOp2 neD (eVar 2) (eLst aNil))) (eOpN tupF (aCons (eVar 2) aNil)) (eTup (aCons (eTup (aCons (eK (.int 0)) (aCons (eK (.int 1)) aNil))) aNil))))))
noncomputable def m__law_stones : List Wv → Sto → Rs Wv := mkF 2 5 d__law_stones
theorem b__law_stones {M : Md} {X : Cx} (T : Hs M) (h__law_draw : Has M false 2 "_law_draw" ["_law_pen", "_law_many"] m__law_draw) (c : Cxt M X B__law_stones 2) : DB X (defBody s__law_stones) d__law_stones :=
    (db_cons (ds_par2 c 2 3 rfl rfl (by decide) (isLoc c (i := 2) (by decide) rfl) (isLoc c (i := 3) (by decide) rfl) (da_cons (de_newl da_nil) (da_cons (de_bin o_mul (de_fn c (h__law_draw.up (by decide)) 0 rfl (da_cons (de_var c 0 rfl (by decide)) (da_cons de_int da_nil))) (de_fn c (h__law_draw.up (by decide)) 0 rfl (da_cons (de_var c 0 rfl (by decide)) (da_cons de_int da_nil)))) da_nil)) (sw2 c (i := 2) (j := 3) rfl rfl (by decide) (by decide) (by decide +kernel) rfl rfl (by intro _ _ h; cases h) (by intro _ _ h; cases h) rfl rfl))
    (db_cons (ds_wh c 100000 (DW.dt (dw_and (dt_cmp (o_lt c.roomH) (de_var c 3 rfl (by decide)) (de_var c 1 rfl (by decide)) (nomark _)) (dw_and1 (dt_cmp (o_lt c.roomH) (de_callB (id := "len") c c_len 1 rfl T.z_len (by decide +kernel) (da_cons (de_var c 2 rfl (by decide)) da_nil)) de_int (nomark _))))) (db_wp [4] (db_cons (ds_set c 4 rfl (by decide) (de_bin o_add de_int (de_fn c (h__law_draw.up (by decide)) 0 rfl (da_cons (de_var c 0 rfl (by decide)) (da_cons (de_callB (id := "min") c (c_min2 c.calm) 2 rfl T.z_min (by decide +kernel) (da_cons de_int (da_cons (de_bin o_sub (de_var c 1 rfl (by decide)) (de_var c 3 rfl (by decide))) da_nil))) da_nil)))))
    (db_cons (ds_exp (de_append (de_var c 2 rfl (by decide)) (da_cons (de_tup (da_cons (de_var c 3 rfl (by decide)) (da_cons (de_var c 4 rfl (by decide)) da_nil))) da_nil)))
    (db_one (ds_set c 3 rfl (by decide) (de_bin o_add (de_bin o_add (de_var c 3 rfl (by decide)) (de_var c 4 rfl (by decide))) (de_ix c.roomH (de_lst (da_cons de_int (da_cons de_int (da_cons de_int (da_cons de_int da_nil))))) (de_fn c (h__law_draw.up (by decide)) 0 rfl (da_cons (de_var c 0 rfl (by decide)) (da_cons de_int da_nil))) (fun _ _ => rfl)))))))))
    (db_one (ds_ret (de_if (dt_cmp (o_ne c.roomH) (de_var c 2 rfl (by decide)) (de_lst da_nil) (nomark _)) (de_callT (T := "tuple") c c_tup 3 rfl T.z_tuple (by decide +kernel) (da_cons (de_var c 2 rfl (by decide)) da_nil)) (de_tup (da_cons (de_tup (da_cons de_int (da_cons de_int da_nil))) da_nil)))))))
theorem h__law_stones {M : Md} (T : Hs M) (h__law_draw : Has M false 2 "_law_draw" ["_law_pen", "_law_many"] m__law_draw) (F : TopFn M "_law_stones" s__law_stones ["_law_pen", "_law_long"]) : Has M false 3 "_law_stones" ["_law_pen", "_law_long"] m__law_stones := has_of F sc__law_stones t__law_stones rfl rfl (fun X c => b__law_stones T h__law_draw c)
abbrev s__law_row : Stmt := topS 85
def B__law_row : Tb := ⟨["_law_pen", "_law_path_here", "_law_width", "_law_some", ".0", "_law_way", "_law_long", "_law_strip"], [0, 1, 2, 3], [0, 1, 2, 3], [1, 2, 3], ["_law_path", "_law_draw", "tuple", "_law_strips", "isinstance", "int"], ["_law_pen"], true, false, none⟩
theorem sc__law_row : FnScope B__law_row.N ["_law_pen"] (defScope s__law_row) := ⟨rfl, rfl, rfl, by decide +kernel, rfl, by decide +kernel, by decide +kernel⟩
theorem t__law_row : fnT B__law_row (defScope s__law_row) = true := by decide +kernel
noncomputable def d__law_row : En → Sto → SR :=
    (sSeq (sPar2 1 2 (aCons (eCall m__law_path (aCons (eVar 0) aNil)) (aCons (eOp2 addD (eK (.int 1)) (eCall m__law_draw (aCons (eVar 0) (aCons (eK (.int 4)) aNil)))) aNil)))
    (sSeq (sSet 1 (eTup (aCons (eOp2 divD (eOp2 ixD (eVar 1) (eK (.int 0))) (eK (.int 6))) (aCons (eOp2 divD (eOp2 ixD (eVar 1) (eK (.int 1))) (eK (.int 6))) (aCons (eOpN tupF (aCons (eLc (cSeq (eSlice (eOp2 ixD (eVar 1) (eK (.int 2))) pNo (pSome (eK (.int 4))))) (gTp (gCn (gN 5) (gCn (gN 6) gNl))) tYs (eTup (aCons (eVar 5) (aCons (eOp2 addD (eK (.int 1)) (eOp2 modD (eVar 6) (eK (.int 40)))) aNil))) [4, 5, 6]) aNil)) aNil)))))
    (sSeq (sSet 3 (eCall m__law_strips (aCons (eVar 1) (aCons (eVar 2) aNil))))
    (sSeq (sIf (tTru (eOp1 (isaD "int") (eVar 3))) (sSeq (sSet 1 (eOp2 addD (eSlice (eVar 1) pNo (pSome (eK (.int 2)))) (eTup (aCons (eSlice (eOp2 ixD (eVar 1) (eK (.int 2))) pNo (pSome (eK (.int 1)))) aNil))))
    (sSet 3 (eCall m__law_strips (aCons (eVar 1) (aCons (eVar 2) aNil))))) sNil)
    (sRet (eTup (aCons (eVar 1) (aCons (eVar 2) (aCons (eOpN tupF (aCons (eLc (cSeq (eVar 3)) (gN 7) tYs (eCall m__law_stones (aCons (eVar 0) (aCons (eOp2 ixD (eVar 7) (eK (.int 3))) aNil))) [4, 7]) aNil)) aNil)))))))))
noncomputable def m__law_row : List Wv → Sto → Rs Wv := mkF 1 8 d__law_row
theorem b__law_row {M : Md} {X : Cx} (T : Hs M) (h__law_draw : Has M false 2 "_law_draw" ["_law_pen", "_law_many"] m__law_draw) (h__law_path : Has M false 3 "_law_path" ["_law_pen"] m__law_path) (h__law_stones : Has M false 3 "_law_stones" ["_law_pen", "_law_long"] m__law_stones) (h__law_strips : Has M false 3 "_law_strips" ["_law_path_here", "_law_width"] m__law_strips) (c : Cxt M X B__law_row 3) : DB X (defBody s__law_row) d__law_row :=
    (db_cons (ds_par2 c 1 2 rfl rfl (by decide) (isLoc c (i := 1) (by decide) rfl) (isLoc c (i := 2) (by decide) rfl) (da_cons (de_fn c (h__law_path.up (by decide)) 0 rfl (da_cons (de_var c 0 rfl (by decide)) da_nil)) (da_cons (de_bin o_add de_int (de_fn c (h__law_draw.up (by decide)) 1 rfl (da_cons (de_var c 0 rfl (by decide)) (da_cons de_int da_nil)))) da_nil)) (sw2 c (i := 1) (j := 2) rfl rfl (by decide) (by decide) (by decide +kernel) rfl rfl (by intro _ _ h; cases h) (by intro _ _ h; cases h) rfl rfl))
    (db_cons (ds_set c 1 rfl (by decide) (de_tup (da_cons (de_bin o_div (de_ix c.roomH (de_var c 1 rfl (by decide)) de_int (fun _ _ => rfl)) de_int) (da_cons (de_bin o_div (de_ix c.roomH (de_var c 1 rfl (by decide)) de_int (fun _ _ => rfl)) de_int) (da_cons (de_callT (T := "tuple") c c_tup 2 rfl T.z_tuple (by decide +kernel) (da_cons (de_lc c (lc_ok c [(".0", 4), ("_law_way", 5), ("_law_long", 6)] [4, 5, 6] [4, 5, 6] [] [] (by decide +kernel) (di_seq (de_slice (de_ix c.roomH (de_var c 1 rfl (by decide)) de_int (fun _ _ => rfl)) do_no (do_some de_int))) (by decide) (fun _ c1 => (dg_tup c1 (dgs_cons (dg_name c1 [4, 5, 6] 5 rfl (by decide) (by decide)) (dgs_cons (dg_name c1 [4, 5, 6] 6 rfl (by decide) (by decide)) (dgs_nil [4, 5, 6]))) (asks_cons (asks_cons asks_nil)))) (fun _ c1 => dts_nil) (fun _ c1 => (de_tup (da_cons (de_var c1 5 rfl (by decide)) (da_cons (de_bin o_add de_int (de_bin o_mod (de_var c1 6 rfl (by decide)) de_int)) da_nil)))))) da_nil)) da_nil)))))
    (db_cons (ds_set c 3 rfl (by decide) (de_fn c (h__law_strips.up (by decide)) 3 rfl (da_cons (de_var c 1 rfl (by decide)) (da_cons (de_var c 2 rfl (by decide)) da_nil))))
    (db_cons (ds_if (dt_val (de_isa c 4 5 rfl T.z_isinstance rfl T.z_int (by decide +kernel) (de_var c 3 rfl (by decide)))) (db_cons (ds_set c 1 rfl (by decide) (de_bin o_add (de_slice (de_var c 1 rfl (by decide)) do_no (do_some de_int)) (de_tup (da_cons (de_slice (de_ix c.roomH (de_var c 1 rfl (by decide)) de_int (fun _ _ => rfl)) do_no (do_some de_int)) da_nil))))
    (db_one (ds_set c 3 rfl (by decide) (de_fn c (h__law_strips.up (by decide)) 3 rfl (da_cons (de_var c 1 rfl (by decide)) (da_cons (de_var c 2 rfl (by decide)) da_nil)))))) db_nil)
    (db_one (ds_ret (de_tup (da_cons (de_var c 1 rfl (by decide)) (da_cons (de_var c 2 rfl (by decide)) (da_cons (de_callT (T := "tuple") c c_tup 2 rfl T.z_tuple (by decide +kernel) (da_cons (de_lc c (lc_ok c [(".0", 4), ("_law_strip", 7)] [4, 7, 0] [4, 7] ["_law_stones"] ["_law_pen"] (by decide +kernel) (di_seq (de_var c 3 rfl (by decide))) (by decide) (fun _ c2 => (dg_name c2 [4, 7] 7 rfl (by decide) (by decide))) (fun _ c2 => dts_nil) (fun _ c2 => (de_fn c2 (h__law_stones.up (by decide)) 0 rfl (da_cons (de_var c2 0 rfl (by decide)) (da_cons (de_ix c2.roomH (de_var c2 7 rfl (by decide)) de_int (fun _ _ => rfl)) da_nil)))))) da_nil)) da_nil))))))))))
theorem h__law_row {M : Md} (T : Hs M) (h__law_draw : Has M false 2 "_law_draw" ["_law_pen", "_law_many"] m__law_draw) (h__law_path : Has M false 3 "_law_path" ["_law_pen"] m__law_path) (h__law_stones : Has M false 3 "_law_stones" ["_law_pen", "_law_long"] m__law_stones) (h__law_strips : Has M false 3 "_law_strips" ["_law_path_here", "_law_width"] m__law_strips) (F : TopFn M "_law_row" s__law_row ["_law_pen"]) : Has M false 4 "_law_row" ["_law_pen"] m__law_row := has_of F sc__law_row t__law_row rfl rfl (fun X c => b__law_row T h__law_draw h__law_path h__law_stones h__law_strips c)
abbrev s__law_cell_at : Stmt := topS 76
def B__law_cell_at : Tb := ⟨["_law_script", "_law_k"], [0, 1], [0, 1], [0, 1], ["len"], [], true, false, none⟩
theorem sc__law_cell_at : FnScope B__law_cell_at.N ["_law_script", "_law_k"] (defScope s__law_cell_at) := ⟨rfl, rfl, rfl, by decide +kernel, rfl, by decide +kernel, by decide +kernel⟩
theorem t__law_cell_at : fnT B__law_cell_at (defScope s__law_cell_at) = true := by decide +kernel
noncomputable def d__law_cell_at : En → Sto → SR :=
    (sSeq (sIf (tBl (eOp2 ltD (eVar 1) (eOpN lenF (aCons (eVar 0) aNil)))) (sRet (eOp2 ixD (eVar 0) (eVar 1))) sNil)
    (sRet (eK (.int 0))))
noncomputable def m__law_cell_at : List Wv → Sto → Rs Wv := mkF 2 2 d__law_cell_at
theorem b__law_cell_at {M : Md} {X : Cx} (T : Hs M)  (c : Cxt M X B__law_cell_at 0) : DB X (defBody s__law_cell_at) d__law_cell_at :=
    (db_cons (ds_if (dt_cmp (o_lt c.roomH) (de_var c 1 rfl (by decide)) (de_callB (id := "len") c c_len 0 rfl T.z_len (by decide +kernel) (da_cons (de_var c 0 rfl (by decide)) da_nil)) (nomark _)) (db_one (ds_ret (de_ix c.roomH (de_var c 0 rfl (by decide)) (de_var c 1 rfl (by decide)) (fun _ _ => rfl)))) db_nil)
    (db_one (ds_ret de_int)))
theorem h__law_cell_at {M : Md} (T : Hs M)  (F : TopFn M "_law_cell_at" s__law_cell_at ["_law_script", "_law_k"]) : Has M false 1 "_law_cell_at" ["_law_script", "_law_k"] m__law_cell_at := has_of F sc__law_cell_at t__law_cell_at rfl rfl (fun X c => b__law_cell_at T  c)
abbrev s__law_is : Stmt := topS 88
def B__law_is : Tb := ⟨["_law_thing", "_law_least", "_law_most"], [0, 1, 2], [0, 1, 2], [0, 1, 2], ["isinstance", "int", "bool"], [], true, false, none⟩
theorem sc__law_is : FnScope B__law_is.N ["_law_thing", "_law_least", "_law_most"] (defScope s__law_is) := ⟨rfl, rfl, rfl, by decide +kernel, rfl, by decide +kernel, by decide +kernel⟩
theorem t__law_is : fnT B__law_is (defScope s__law_is) = true := by decide +kernel
noncomputable def d__law_is : En → Sto → SR :=
    (sRet (eAnd2 (eOp1 (isaD "int") (eVar 0)) (eAnd2 (eNot1 (eOp1 (isaD "bool") (eVar 0))) (eChain leD leD (eVar 1) (eVar 0) (eVar 2)))))
noncomputable def m__law_is : List Wv → Sto → Rs Wv := mkF 3 3 d__law_is
theorem b__law_is {M : Md} {X : Cx} (T : Hs M)  (c : Cxt M X B__law_is 0) : DB X (defBody s__law_is) d__law_is :=
    (db_one (ds_ret (de_and (de_isa c 0 1 rfl T.z_isinstance rfl T.z_int (by decide +kernel) (de_var c 0 rfl (by decide))) (de_and (de_not (de_isa c 0 2 rfl T.z_isinstance rfl T.z_bool (by decide +kernel) (de_var c 0 rfl (by decide)))) (de_one (de_chain (o_le c.roomH) (o_le c.roomH) (de_var c 1 rfl (by decide)) (de_var c 0 rfl (by decide)) (de_var c 2 rfl (by decide))))))))
theorem h__law_is {M : Md} (T : Hs M)  (F : TopFn M "_law_is" s__law_is ["_law_thing", "_law_least", "_law_most"]) : Has M false 1 "_law_is" ["_law_thing", "_law_least", "_law_most"] m__law_is := has_of F sc__law_is t__law_is rfl rfl (fun X c => b__law_is T  c)
abbrev s__law_are_stones : Stmt := topS 89
def B__law_are_stones : Tb := ⟨["_law_thing", "_law_last", "_law_end", "_law_one"], [0, 1, 2, 3], [0, 1, 2, 3], [0, 1, 2, 3], ["isinstance", "tuple", "len", "_law_is"], [], true, false, none⟩
theorem sc__law_are_stones : FnScope B__law_are_stones.N ["_law_thing", "_law_last"] (defScope s__law_are_stones) := ⟨rfl, rfl, rfl, by decide +kernel, rfl, by decide +kernel, by decide +kernel⟩
theorem t__law_are_stones : fnT B__law_are_stones (defScope s__law_are_stones) = true := by decide +kernel
noncomputable def d__law_are_stones_l1 : En → Sto → SR :=
    (sWp [3] (sSeq (sIf (tOr2 (tNot1 (tTru (eOp1 (isaD "tuple") (eVar 3)))) (tOr2 (tBl (eOp2 neD (eOpN lenF (aCons (eVar 3) aNil)) (eK (.int 2)))) (tOr2 (tNot1 (tTru (eCall m__law_is (aCons (eOp2 ixD (eVar 3) (eK (.int 0))) (aCons (eVar 2) (aCons (eVar 1) aNil)))))) (tNot1 (tTru (eCall m__law_is (aCons (eOp2 ixD (eVar 3) (eK (.int 1))) (aCons (eK (.int 1)) (aCons (eK (.int 20)) aNil))))))))) (sRet (eK (.bool false))) sNil)
    (sSet 2 (eOp2 addD (eOp2 ixD (eVar 3) (eK (.int 0))) (eOp2 ixD (eVar 3) (eK (.int 1)))))))
noncomputable def d__law_are_stones : En → Sto → SR :=
    (sSeq (sIf (tOr2 (tNot1 (tTru (eOp1 (isaD "tuple") (eVar 0)))) (tNot1 (tBl (eChain leD leD (eK (.int 1)) (eOpN lenF (aCons (eVar 0) aNil)) (eK (.int 12)))))) (sRet (eK (.bool false))) sNil)
    (sSeq (sSet 2 (eK (.int 0)))
    (sSeq (sFor (cSeq (eVar 0)) (gN 3) d__law_are_stones_l1)
    (sRet (eOp2 leD (eVar 2) (eVar 1))))))
noncomputable def m__law_are_stones : List Wv → Sto → Rs Wv := mkF 2 4 d__law_are_stones
theorem b__law_are_stones {M : Md} {X : Cx} (T : Hs M) (h__law_is : Has M false 1 "_law_is" ["_law_thing", "_law_least", "_law_most"] m__law_is) (c : Cxt M X B__law_are_stones 1) : DB X (defBody s__law_are_stones) d__law_are_stones :=
    (db_cons (ds_if (DW.dt (dw_or (dt_not (dt_val (de_isa c 0 1 rfl T.z_isinstance rfl T.z_tuple (by decide +kernel) (de_var c 0 rfl (by decide))))) (dw_or1 (dt_not (dt_chain (o_le c.roomH) (o_le c.roomH) de_int (de_callB (id := "len") c c_len 2 rfl T.z_len (by decide +kernel) (da_cons (de_var c 0 rfl (by decide)) da_nil)) de_int))))) (db_one (ds_ret de_bl)) db_nil)
    (db_cons (ds_set c 2 rfl (by decide) de_int)
    (db_cons (ds_for c [3] (di_seq (de_var c 0 rfl (by decide))) (dg_name c [3] 3 rfl (by decide) (by decide))
    (db_wp [3] (db_cons (ds_if (DW.dt (dw_or (dt_not (dt_val (de_isa c 0 1 rfl T.z_isinstance rfl T.z_tuple (by decide +kernel) (de_var c 3 rfl (by decide))))) (dw_or (dt_cmp (o_ne c.roomH) (de_callB (id := "len") c c_len 2 rfl T.z_len (by decide +kernel) (da_cons (de_var c 3 rfl (by decide)) da_nil)) de_int (nomark _)) (dw_or (dt_not (dt_val (de_fn c (h__law_is.up (by decide)) 3 rfl (da_cons (de_ix c.roomH (de_var c 3 rfl (by decide)) de_int (fun _ _ => rfl)) (da_cons (de_var c 2 rfl (by decide)) (da_cons (de_var c 1 rfl (by decide)) da_nil)))))) (dw_or1 (dt_not (dt_val (de_fn c (h__law_is.up (by decide)) 3 rfl (da_cons (de_ix c.roomH (de_var c 3 rfl (by decide)) de_int (fun _ _ => rfl)) (da_cons de_int (da_cons de_int da_nil))))))))))) (db_one (ds_ret de_bl)) db_nil)
    (db_one (ds_set c 2 rfl (by decide) (de_bin o_add (de_ix c.roomH (de_var c 3 rfl (by decide)) de_int (fun _ _ => rfl)) (de_ix c.roomH (de_var c 3 rfl (by decide)) de_int (fun _ _ => rfl))))))))
    (db_one (ds_ret (de_cmp (o_le c.roomH) (de_var c 2 rfl (by decide)) (de_var c 1 rfl (by decide)) (nomark _)))))))
theorem h__law_are_stones {M : Md} (T : Hs M) (h__law_is : Has M false 1 "_law_is" ["_law_thing", "_law_least", "_law_most"] m__law_is) (F : TopFn M "_law_are_stones" s__law_are_stones ["_law_thing", "_law_last"]) : Has M false 2 "_law_are_stones" ["_law_thing", "_law_last"] m__law_are_stones := has_of F sc__law_are_stones t__law_are_stones rfl rfl (fun X c => b__law_are_stones T h__law_is c)
abbrev s__law_is_row : Stmt := topS 90
def B__law_is_row : Tb := ⟨["_law_path_here", "_law_width", "_law_laid", "_law_some", ".0", "_law_stones_here", "_law_strip"], [0, 1, 2, 3], [0, 1, 2, 3], [0, 1, 2, 3], ["_law_strips", "isinstance", "int", "tuple", "len", "all", "zip"], [], true, false, none⟩
theorem sc__law_is_row : FnScope B__law_is_row.N ["_law_path_here", "_law_width", "_law_laid"] (defScope s__law_is_row) := ⟨rfl, rfl, rfl, by decide +kernel, rfl, by decide +kernel, by decide +kernel⟩
theorem t__law_is_row : fnT B__law_is_row (defScope s__law_is_row) = true := by decide +kernel
noncomputable def d__law_is_row : En → Sto → SR :=
    (sSeq (sSet 3 (eCall m__law_strips (aCons (eVar 0) (aCons (eVar 1) aNil))))
    (sSeq (sIf (tOr2 (tTru (eOp1 (isaD "int") (eVar 3))) (tOr2 (tNot1 (tTru (eOp1 (isaD "tuple") (eVar 2)))) (tBl (eOp2 neD (eOpN lenF (aCons (eVar 2) aNil)) (eOpN lenF (aCons (eVar 3) aNil)))))) (sRet (eK (.bool false))) sNil)
    (sRet (eOpN allF (aCons (eLc (cZip2 (aCons (eVar 2) (aCons (eVar 3) aNil))) (gTp (gCn (gN 5) (gCn (gN 6) gNl))) tYs (eCall m__law_are_stones (aCons (eVar 5) (aCons (eOp2 ixD (eVar 6) (eK (.int 3))) aNil))) [4, 5, 6]) aNil)))))
noncomputable def m__law_is_row : List Wv → Sto → Rs Wv := mkF 3 7 d__law_is_row
theorem b__law_is_row {M : Md} {X : Cx} (T : Hs M) (h__law_are_stones : Has M false 2 "_law_are_stones" ["_law_thing", "_law_last"] m__law_are_stones) (h__law_strips : Has M false 3 "_law_strips" ["_law_path_here", "_law_width"] m__law_strips) (c : Cxt M X B__law_is_row 3) : DB X (defBody s__law_is_row) d__law_is_row :=
    (db_cons (ds_set c 3 rfl (by decide) (de_fn c (h__law_strips.up (by decide)) 0 rfl (da_cons (de_var c 0 rfl (by decide)) (da_cons (de_var c 1 rfl (by decide)) da_nil))))
    (db_cons (ds_if (DW.dt (dw_or (dt_val (de_isa c 1 2 rfl T.z_isinstance rfl T.z_int (by decide +kernel) (de_var c 3 rfl (by decide)))) (dw_or (dt_not (dt_val (de_isa c 1 3 rfl T.z_isinstance rfl T.z_tuple (by decide +kernel) (de_var c 2 rfl (by decide))))) (dw_or1 (dt_cmp (o_ne c.roomH) (de_callB (id := "len") c c_len 4 rfl T.z_len (by decide +kernel) (da_cons (de_var c 2 rfl (by decide)) da_nil)) (de_callB (id := "len") c c_len 4 rfl T.z_len (by decide +kernel) (da_cons (de_var c 3 rfl (by decide)) da_nil)) (nomark _)))))) (db_one (ds_ret de_bl)) db_nil)
    (db_one (ds_ret (de_callB (id := "all") c (c_all c.calm) 5 rfl T.z_all (by decide +kernel) (da_cons (de_lc c (lc_ok c [(".0", 4), ("_law_stones_here", 5), ("_law_strip", 6)] [4, 5, 6] [4, 5, 6] ["_law_are_stones"] [] (by decide +kernel) (di_zip2 c 6 rfl T.z_zip (da_cons (de_var c 2 rfl (by decide)) (da_cons (de_var c 3 rfl (by decide)) da_nil))) (by decide) (fun _ c3 => (dg_tup c3 (dgs_cons (dg_name c3 [4, 5, 6] 5 rfl (by decide) (by decide)) (dgs_cons (dg_name c3 [4, 5, 6] 6 rfl (by decide) (by decide)) (dgs_nil [4, 5, 6]))) (asks_cons (asks_cons asks_nil)))) (fun _ c3 => dts_nil) (fun _ c3 => (de_fn c3 (h__law_are_stones.up (by decide)) 0 rfl (da_cons (de_var c3 5 rfl (by decide)) (da_cons (de_ix c3.roomH (de_var c3 6 rfl (by decide)) de_int (fun _ _ => rfl)) da_nil)))))) da_nil))))))
theorem h__law_is_row {M : Md} (T : Hs M) (h__law_are_stones : Has M false 2 "_law_are_stones" ["_law_thing", "_law_last"] m__law_are_stones) (h__law_strips : Has M false 3 "_law_strips" ["_law_path_here", "_law_width"] m__law_strips) (F : TopFn M "_law_is_row" s__law_is_row ["_law_path_here", "_law_width", "_law_laid"]) : Has M false 4 "_law_is_row" ["_law_path_here", "_law_width", "_law_laid"] m__law_is_row := has_of F sc__law_is_row t__law_is_row rfl rfl (fun X c => b__law_is_row T h__law_are_stones h__law_strips c)
abbrev s__law_flags : Stmt := topS 86
def B__law_flags : Tb := ⟨["_law_e", "_law_marks", "_law_words", "_law_word_here"], [0, 1, 2, 3], [0, 1, 2, 3], [0, 1, 2, 3], ["isinstance", "NoPath", "NoWidth", "NoPlace", "NoNumber", "NoJoints", "NoLongs", "NoSpan", "NoLaying", "NoRow", "NoStone", "NoFit", "Missing", "Nothing", "NoStock", "NoDrawing", "NoWants", "NoLots", "NoOrder", "NoPanel", "NoShift", "NoLine", "NoStrip", "TooGreat", "Short", "Over", "NoText", "ValueError", "LookupError", "TypeError", "ArithmeticError", "RuntimeError"], [], true, false, none⟩
theorem sc__law_flags : FnScope B__law_flags.N ["_law_e"] (defScope s__law_flags) := ⟨rfl, rfl, rfl, by decide +kernel, rfl, by decide +kernel, by decide +kernel⟩
theorem t__law_flags : fnT B__law_flags (defScope s__law_flags) = true := by decide +kernel
noncomputable def d__law_flags (ea : Addr) (xn : Str) (d : Option Addr) : En → Sto → SR :=
    (sSeq (sSet 1 (eLst (aCons (eIsx ea xn d (decide (xn = "NoPath")) 0) (aCons (eIsx ea xn d (decide (xn = "NoWidth")) 0) (aCons (eIsx ea xn d (decide (xn = "NoPlace")) 0) (aCons (eIsx ea xn d (decide (xn = "NoNumber")) 0) aNil))))))
    (sSeq (sSet 1 (eOp2 addD (eVar 1) (eLst (aCons (eIsx ea xn d (decide (xn = "NoJoints")) 0) (aCons (eIsx ea xn d (decide (xn = "NoLongs")) 0) (aCons (eIsx ea xn d (decide (xn = "NoSpan")) 0) (aCons (eIsx ea xn d (decide (xn = "NoLaying")) 0) aNil)))))))
    (sSeq (sSet 1 (eOp2 addD (eVar 1) (eLst (aCons (eIsx ea xn d (decide (xn = "NoRow")) 0) (aCons (eIsx ea xn d (decide (xn = "NoStone")) 0) (aCons (eIsx ea xn d (decide (xn = "NoFit")) 0) (aCons (eIsx ea xn d (decide (xn = "Missing")) 0) aNil)))))))
    (sSeq (sSet 1 (eOp2 addD (eVar 1) (eLst (aCons (eIsx ea xn d (decide (xn = "Nothing")) 0) (aCons (eIsx ea xn d (decide (xn = "NoStock")) 0) (aCons (eIsx ea xn d (decide (xn = "NoDrawing")) 0) (aCons (eIsx ea xn d (decide (xn = "NoWants")) 0) aNil)))))))
    (sSeq (sSet 1 (eOp2 addD (eVar 1) (eLst (aCons (eIsx ea xn d (decide (xn = "NoLots")) 0) (aCons (eIsx ea xn d (decide (xn = "NoOrder")) 0) (aCons (eIsx ea xn d (decide (xn = "NoPanel")) 0) (aCons (eIsx ea xn d (decide (xn = "NoShift")) 0) aNil)))))))
    (sSeq (sSet 1 (eOp2 addD (eVar 1) (eLst (aCons (eIsx ea xn d (decide (xn = "NoLine")) 0) (aCons (eIsx ea xn d (decide (xn = "NoStrip")) 0) (aCons (eIsx ea xn d (decide (xn = "TooGreat")) 0) (aCons (eIsx ea xn d (decide (xn = "Short")) 0) aNil)))))))
    (sSeq (sSet 1 (eOp2 addD (eVar 1) (eLst (aCons (eIsx ea xn d (decide (xn = "Over")) 0) (aCons (eIsx ea xn d (decide (xn = "NoText")) 0) aNil)))))
    (sSeq (sIf (tOr2 (tNot1 (tTru (eIsx ea xn d true 0))) (tTru (eIsx ea xn d false 0))) (sRet (eTup (aCons (eK (.str "other")) aNil))) sNil)
    (sSeq (sIf (tBl (eOp2 neD (eMd cntD (eVar 1) (aCons (eK (.bool true)) aNil)) (eK (.int 1)))) (sRet (eTup (aCons (eK (.str "other")) aNil))) sNil)
    (sSeq (sSet 2 (eLst (aCons (eK (.str "path")) (aCons (eK (.str "width")) (aCons (eK (.str "place")) (aCons (eK (.str "number")) (aCons (eK (.str "joints")) (aCons (eK (.str "longs")) (aCons (eK (.str "span")) (aCons (eK (.str "laying")) (aCons (eK (.str "row")) (aCons (eK (.str "stone")) (aCons (eK (.str "fit")) (aCons (eK (.str "missing")) aNil))))))))))))))
    (sSeq (sSet 2 (eOp2 addD (eVar 2) (eLst (aCons (eK (.str "nothing")) (aCons (eK (.str "stock")) (aCons (eK (.str "drawing")) (aCons (eK (.str "wants")) (aCons (eK (.str "lots")) (aCons (eK (.str "order")) (aCons (eK (.str "panel")) (aCons (eK (.str "shift")) (aCons (eK (.str "line")) (aCons (eK (.str "strip")) aNil)))))))))))))
    (sSeq (sSet 3 (eOp2 ixD (eOp2 addD (eVar 2) (eLst (aCons (eK (.str "great")) (aCons (eK (.str "short")) (aCons (eK (.str "over")) (aCons (eK (.str "text")) aNil)))))) (eMd idxD (eVar 1) (aCons (eK (.bool true)) aNil))))
    (sSeq (sIf (tBl (eOp2 eqD (eVar 3) (eK (.str "strip")))) (sRet (eTup (aCons (eVar 3) (aCons (eXfO fldX ea xn d "leg" 0) aNil)))) sNil)
    (sSeq (sIf (tBl (eOp2 eqD (eVar 3) (eK (.str "great")))) (sRet (eTup (aCons (eVar 3) (aCons (eXfO fldX ea xn d "many" 0) (aCons (eXfO fldX ea xn d "most" 0) aNil))))) sNil)
    (sSeq (sIf (tBl (eOp2 eqD (eVar 3) (eK (.str "short")))) (sRet (eTup (aCons (eVar 3) (aCons (eXfO fldX ea xn d "shade" 0) (aCons (eXfO fldX ea xn d "batch" 0) (aCons (eXfO fldX ea xn d "long" 0) (aCons (eXfO fldX ea xn d "by" 0) aNil))))))) sNil)
    (sSeq (sIf (tBl (eOp2 eqD (eVar 3) (eK (.str "over")))) (sRet (eTup (aCons (eVar 3) (aCons (eXfO fldX ea xn d "row" 0) (aCons (eXfO fldX ea xn d "stone" 0) (aCons (eXfO fldX ea xn d "other" 0) (aCons (eXfO fldX ea xn d "second" 0) aNil))))))) sNil)
    (sRet (eIf (tBl (eOp2 eqD (eVar 3) (eK (.str "text")))) (eTup (aCons (eVar 3) (aCons (eXfO fldX ea xn d "word" 0) aNil))) (eTup (aCons (eVar 3) aNil))))))))))))))))))))
abbrev FlT (M : Md) : Prop := FlFn M "_law_flags" 0 4 d__law_flags (XcA M "StoneError" ysX fldX)
theorem b__law_flags {M : Md} {X : Cx} {ea C : Addr} {xn : Str} {d : Option Addr} (T : Hs M) (E : XcA M "StoneError" ysX fldX xn C) (c : Cxh M X B__law_flags 0 ea xn C d) : DB X (defBody s__law_flags) (d__law_flags ea xn d) :=
    (db_cons (dsh_set c 1 rfl (by decide) (de_lst (da_cons (deh_isO c E.exc 0 1 0 rfl (by decide) rfl T.z_isinstance rfl (E.own _ (by decide))) (da_cons (deh_isO c E.exc 0 2 0 rfl (by decide) rfl T.z_isinstance rfl (E.own _ (by decide))) (da_cons (deh_isO c E.exc 0 3 0 rfl (by decide) rfl T.z_isinstance rfl (E.own _ (by decide))) (da_cons (deh_isO c E.exc 0 4 0 rfl (by decide) rfl T.z_isinstance rfl (E.own _ (by decide))) da_nil))))))
    (db_cons (dsh_set c 1 rfl (by decide) (de_bin o_add (deh_var c 1 rfl (by decide)) (de_lst (da_cons (deh_isO c E.exc 0 5 0 rfl (by decide) rfl T.z_isinstance rfl (E.own _ (by decide))) (da_cons (deh_isO c E.exc 0 6 0 rfl (by decide) rfl T.z_isinstance rfl (E.own _ (by decide))) (da_cons (deh_isO c E.exc 0 7 0 rfl (by decide) rfl T.z_isinstance rfl (E.own _ (by decide))) (da_cons (deh_isO c E.exc 0 8 0 rfl (by decide) rfl T.z_isinstance rfl (E.own _ (by decide))) da_nil)))))))
    (db_cons (dsh_set c 1 rfl (by decide) (de_bin o_add (deh_var c 1 rfl (by decide)) (de_lst (da_cons (deh_isO c E.exc 0 9 0 rfl (by decide) rfl T.z_isinstance rfl (E.own _ (by decide))) (da_cons (deh_isO c E.exc 0 10 0 rfl (by decide) rfl T.z_isinstance rfl (E.own _ (by decide))) (da_cons (deh_isO c E.exc 0 11 0 rfl (by decide) rfl T.z_isinstance rfl (E.own _ (by decide))) (da_cons (deh_isO c E.exc 0 12 0 rfl (by decide) rfl T.z_isinstance rfl (E.own _ (by decide))) da_nil)))))))
    (db_cons (dsh_set c 1 rfl (by decide) (de_bin o_add (deh_var c 1 rfl (by decide)) (de_lst (da_cons (deh_isO c E.exc 0 13 0 rfl (by decide) rfl T.z_isinstance rfl (E.own _ (by decide))) (da_cons (deh_isO c E.exc 0 14 0 rfl (by decide) rfl T.z_isinstance rfl (E.own _ (by decide))) (da_cons (deh_isO c E.exc 0 15 0 rfl (by decide) rfl T.z_isinstance rfl (E.own _ (by decide))) (da_cons (deh_isO c E.exc 0 16 0 rfl (by decide) rfl T.z_isinstance rfl (E.own _ (by decide))) da_nil)))))))
    (db_cons (dsh_set c 1 rfl (by decide) (de_bin o_add (deh_var c 1 rfl (by decide)) (de_lst (da_cons (deh_isO c E.exc 0 17 0 rfl (by decide) rfl T.z_isinstance rfl (E.own _ (by decide))) (da_cons (deh_isO c E.exc 0 18 0 rfl (by decide) rfl T.z_isinstance rfl (E.own _ (by decide))) (da_cons (deh_isO c E.exc 0 19 0 rfl (by decide) rfl T.z_isinstance rfl (E.own _ (by decide))) (da_cons (deh_isO c E.exc 0 20 0 rfl (by decide) rfl T.z_isinstance rfl (E.own _ (by decide))) da_nil)))))))
    (db_cons (dsh_set c 1 rfl (by decide) (de_bin o_add (deh_var c 1 rfl (by decide)) (de_lst (da_cons (deh_isO c E.exc 0 21 0 rfl (by decide) rfl T.z_isinstance rfl (E.own _ (by decide))) (da_cons (deh_isO c E.exc 0 22 0 rfl (by decide) rfl T.z_isinstance rfl (E.own _ (by decide))) (da_cons (deh_isO c E.exc 0 23 0 rfl (by decide) rfl T.z_isinstance rfl (E.own _ (by decide))) (da_cons (deh_isO c E.exc 0 24 0 rfl (by decide) rfl T.z_isinstance rfl (E.own _ (by decide))) da_nil)))))))
    (db_cons (dsh_set c 1 rfl (by decide) (de_bin o_add (deh_var c 1 rfl (by decide)) (de_lst (da_cons (deh_isO c E.exc 0 25 0 rfl (by decide) rfl T.z_isinstance rfl (E.own _ (by decide))) (da_cons (deh_isO c E.exc 0 26 0 rfl (by decide) rfl T.z_isinstance rfl (E.own _ (by decide))) da_nil)))))
    (db_cons (ds_if (DW.dt (dw_or (dt_not (dt_val (deh_isb (p5 := ⟨0, 0, 0, 0⟩) c E.exc 0 27 0 rfl (by decide) rfl T.z_isinstance rfl T.z_ValueError PyProof.Rows.Boot.«ValueError» E.ve))) (dw_or1 (dt_val (deh_ist c E.exc 0 0 (j1 := 28) (j2 := 29) (j3 := 30) (j4 := 31) rfl (by decide) rfl T.z_isinstance rfl rfl rfl rfl T.z_LookupError T.z_TypeError T.z_ArithmeticError T.z_RuntimeError PyProof.Rows.Boot.«LookupError» PyProof.Rows.Boot.«TypeError» PyProof.Rows.Boot.«ArithmeticError» PyProof.Rows.Boot.«RuntimeError» (by decide) (by decide) (by decide) (by decide) E.no4))))) (db_one (ds_ret (de_tup (da_cons de_str da_nil)))) db_nil)
    (db_cons (ds_if (dt_cmp (o_ne c.roomH) (deh_count c.roomH (deh_var c 1 rfl (by decide)) (da_cons de_bl da_nil)) de_int (nomark _)) (db_one (ds_ret (de_tup (da_cons de_str da_nil)))) db_nil)
    (db_cons (dsh_set c 2 rfl (by decide) (de_lst (da_cons de_str (da_cons de_str (da_cons de_str (da_cons de_str (da_cons de_str (da_cons de_str (da_cons de_str (da_cons de_str (da_cons de_str (da_cons de_str (da_cons de_str (da_cons de_str da_nil))))))))))))))
    (db_cons (dsh_set c 2 rfl (by decide) (de_bin o_add (deh_var c 2 rfl (by decide)) (de_lst (da_cons de_str (da_cons de_str (da_cons de_str (da_cons de_str (da_cons de_str (da_cons de_str (da_cons de_str (da_cons de_str (da_cons de_str (da_cons de_str da_nil)))))))))))))
    (db_cons (dsh_set c 3 rfl (by decide) (de_ix c.roomH (de_bin o_add (deh_var c 2 rfl (by decide)) (de_lst (da_cons de_str (da_cons de_str (da_cons de_str (da_cons de_str da_nil)))))) (deh_index (deh_var c 1 rfl (by decide)) (da_cons de_bl da_nil)) (fun _ _ => rfl)))
    (db_cons (ds_if (dt_cmp (o_eq c.roomH) (deh_var c 3 rfl (by decide)) de_str (nomark _)) (db_one (ds_ret (de_tup (da_cons (deh_var c 3 rfl (by decide)) (da_cons (deh_xfO c E 0 rfl (by decide)) da_nil))))) db_nil)
    (db_cons (ds_if (dt_cmp (o_eq c.roomH) (deh_var c 3 rfl (by decide)) de_str (nomark _)) (db_one (ds_ret (de_tup (da_cons (deh_var c 3 rfl (by decide)) (da_cons (deh_xfO c E 0 rfl (by decide)) (da_cons (deh_xfO c E 0 rfl (by decide)) da_nil)))))) db_nil)
    (db_cons (ds_if (dt_cmp (o_eq c.roomH) (deh_var c 3 rfl (by decide)) de_str (nomark _)) (db_one (ds_ret (de_tup (da_cons (deh_var c 3 rfl (by decide)) (da_cons (deh_xfO c E 0 rfl (by decide)) (da_cons (deh_xfO c E 0 rfl (by decide)) (da_cons (deh_xfO c E 0 rfl (by decide)) (da_cons (deh_xfO c E 0 rfl (by decide)) da_nil)))))))) db_nil)
    (db_cons (ds_if (dt_cmp (o_eq c.roomH) (deh_var c 3 rfl (by decide)) de_str (nomark _)) (db_one (ds_ret (de_tup (da_cons (deh_var c 3 rfl (by decide)) (da_cons (deh_xfO c E 0 rfl (by decide)) (da_cons (deh_xfO c E 0 rfl (by decide)) (da_cons (deh_xfO c E 0 rfl (by decide)) (da_cons (deh_xfO c E 0 rfl (by decide)) da_nil)))))))) db_nil)
    (db_one (ds_ret (de_if (dt_cmp (o_eq c.roomH) (deh_var c 3 rfl (by decide)) de_str (nomark _)) (de_tup (da_cons (deh_var c 3 rfl (by decide)) (da_cons (deh_xfO c E 0 rfl (by decide)) da_nil))) (de_tup (da_cons (deh_var c 3 rfl (by decide)) da_nil)))))))))))))))))))))
theorem h__law_flags {M : Md} (T : Hs M) (F : TopFn M "_law_flags" s__law_flags ["_law_e"]) : FlT M := flfn_of F sc__law_flags t__law_flags rfl fun ea C xn d E X c => b__law_flags T E c
abbrev s__law_word : Stmt := topS 87
theorem sc__law_word : FnScope ["_law_call", "_law_e"] ["_law_call"] (defScope s__law_word) := ⟨rfl, rfl, rfl, by decide +kernel, rfl, by decide +kernel, by decide +kernel⟩
abbrev told__law_word : Option Str := some "told"
def flT__law_word : FlTab := [("NoJoints", "joints", []), ("NoPlace", "place", []), ("NoRow", "row", []), ("NoStrip", "strip", ["leg"])]
def fl__law_word : Xc → Option PyData := flL flT__law_word
theorem fv_NoJoints : FvOk 4 d__law_flags "NoJoints" "joints" [] := fv_0 fun ea p st => by
  have hc : cntD (.list [.bool false, .bool false, .bool false, .bool false, .bool true, .bool false, .bool false, .bool false, .bool false, .bool false, .bool false, .bool false, .bool false, .bool false, .bool false, .bool false, .bool false, .bool false, .bool false, .bool false, .bool false, .bool false, .bool false, .bool false, .bool false, .bool false]) [.bool true] = some (.int 1) := rfl
  have hi : idxD (.list [.bool false, .bool false, .bool false, .bool false, .bool true, .bool false, .bool false, .bool false, .bool false, .bool false, .bool false, .bool false, .bool false, .bool false, .bool false, .bool false, .bool false, .bool false, .bool false, .bool false, .bool false, .bool false, .bool false, .bool false, .bool false, .bool false]) [.bool true] = some (.int 4) := rfl
  have hw : atD ([.str "path", .str "width", .str "place", .str "number", .str "joints", .str "longs", .str "span", .str "laying", .str "row", .str "stone", .str "fit", .str "missing", .str "nothing", .str "stock", .str "drawing", .str "wants", .str "lots", .str "order", .str "panel", .str "shift", .str "line", .str "strip", .str "great", .str "short", .str "over", .str "text"] : List PyData) 4 = some (.str "joints") := rfl
  unfold mkF d__law_flags
  simp -implicitDefEqProofs [sh_isx, lstW, tupW, show decide (("NoJoints" : Str) = "NoPath") = false from by decide +kernel, show decide (("NoJoints" : Str) = "NoWidth") = false from by decide +kernel, show decide (("NoJoints" : Str) = "NoPlace") = false from by decide +kernel, show decide (("NoJoints" : Str) = "NoNumber") = false from by decide +kernel, show decide (("NoJoints" : Str) = "NoLongs") = false from by decide +kernel, show decide (("NoJoints" : Str) = "NoSpan") = false from by decide +kernel, show decide (("NoJoints" : Str) = "NoLaying") = false from by decide +kernel, show decide (("NoJoints" : Str) = "NoRow") = false from by decide +kernel, show decide (("NoJoints" : Str) = "NoStone") = false from by decide +kernel, show decide (("NoJoints" : Str) = "NoFit") = false from by decide +kernel, show decide (("NoJoints" : Str) = "Missing") = false from by decide +kernel, show decide (("NoJoints" : Str) = "Nothing") = false from by decide +kernel, show decide (("NoJoints" : Str) = "NoStock") = false from by decide +kernel, show decide (("NoJoints" : Str) = "NoDrawing") = false from by decide +kernel, show decide (("NoJoints" : Str) = "NoWants") = false from by decide +kernel, show decide (("NoJoints" : Str) = "NoLots") = false from by decide +kernel, show decide (("NoJoints" : Str) = "NoOrder") = false from by decide +kernel, show decide (("NoJoints" : Str) = "NoPanel") = false from by decide +kernel, show decide (("NoJoints" : Str) = "NoShift") = false from by decide +kernel, show decide (("NoJoints" : Str) = "NoLine") = false from by decide +kernel, show decide (("NoJoints" : Str) = "NoStrip") = false from by decide +kernel, show decide (("NoJoints" : Str) = "TooGreat") = false from by decide +kernel, show decide (("NoJoints" : Str) = "Short") = false from by decide +kernel, show decide (("NoJoints" : Str) = "Over") = false from by decide +kernel, show decide (("NoJoints" : Str) = "NoText") = false from by decide +kernel, hc, hi, hw, show (("joints" : Str) == "strip") = false from by decide +kernel, show (("joints" : Str) == "great") = false from by decide +kernel, show (("joints" : Str) == "short") = false from by decide +kernel, show (("joints" : Str) == "over") = false from by decide +kernel, show (("joints" : Str) == "text") = false from by decide +kernel]
theorem fv_NoPlace : FvOk 4 d__law_flags "NoPlace" "place" [] := fv_0 fun ea p st => by
  have hc : cntD (.list [.bool false, .bool false, .bool true, .bool false, .bool false, .bool false, .bool false, .bool false, .bool false, .bool false, .bool false, .bool false, .bool false, .bool false, .bool false, .bool false, .bool false, .bool false, .bool false, .bool false, .bool false, .bool false, .bool false, .bool false, .bool false, .bool false]) [.bool true] = some (.int 1) := rfl
  have hi : idxD (.list [.bool false, .bool false, .bool true, .bool false, .bool false, .bool false, .bool false, .bool false, .bool false, .bool false, .bool false, .bool false, .bool false, .bool false, .bool false, .bool false, .bool false, .bool false, .bool false, .bool false, .bool false, .bool false, .bool false, .bool false, .bool false, .bool false]) [.bool true] = some (.int 2) := rfl
  have hw : atD ([.str "path", .str "width", .str "place", .str "number", .str "joints", .str "longs", .str "span", .str "laying", .str "row", .str "stone", .str "fit", .str "missing", .str "nothing", .str "stock", .str "drawing", .str "wants", .str "lots", .str "order", .str "panel", .str "shift", .str "line", .str "strip", .str "great", .str "short", .str "over", .str "text"] : List PyData) 2 = some (.str "place") := rfl
  unfold mkF d__law_flags
  simp -implicitDefEqProofs [sh_isx, lstW, tupW, show decide (("NoPlace" : Str) = "NoPath") = false from by decide +kernel, show decide (("NoPlace" : Str) = "NoWidth") = false from by decide +kernel, show decide (("NoPlace" : Str) = "NoNumber") = false from by decide +kernel, show decide (("NoPlace" : Str) = "NoJoints") = false from by decide +kernel, show decide (("NoPlace" : Str) = "NoLongs") = false from by decide +kernel, show decide (("NoPlace" : Str) = "NoSpan") = false from by decide +kernel, show decide (("NoPlace" : Str) = "NoLaying") = false from by decide +kernel, show decide (("NoPlace" : Str) = "NoRow") = false from by decide +kernel, show decide (("NoPlace" : Str) = "NoStone") = false from by decide +kernel, show decide (("NoPlace" : Str) = "NoFit") = false from by decide +kernel, show decide (("NoPlace" : Str) = "Missing") = false from by decide +kernel, show decide (("NoPlace" : Str) = "Nothing") = false from by decide +kernel, show decide (("NoPlace" : Str) = "NoStock") = false from by decide +kernel, show decide (("NoPlace" : Str) = "NoDrawing") = false from by decide +kernel, show decide (("NoPlace" : Str) = "NoWants") = false from by decide +kernel, show decide (("NoPlace" : Str) = "NoLots") = false from by decide +kernel, show decide (("NoPlace" : Str) = "NoOrder") = false from by decide +kernel, show decide (("NoPlace" : Str) = "NoPanel") = false from by decide +kernel, show decide (("NoPlace" : Str) = "NoShift") = false from by decide +kernel, show decide (("NoPlace" : Str) = "NoLine") = false from by decide +kernel, show decide (("NoPlace" : Str) = "NoStrip") = false from by decide +kernel, show decide (("NoPlace" : Str) = "TooGreat") = false from by decide +kernel, show decide (("NoPlace" : Str) = "Short") = false from by decide +kernel, show decide (("NoPlace" : Str) = "Over") = false from by decide +kernel, show decide (("NoPlace" : Str) = "NoText") = false from by decide +kernel, hc, hi, hw, show (("place" : Str) == "strip") = false from by decide +kernel, show (("place" : Str) == "great") = false from by decide +kernel, show (("place" : Str) == "short") = false from by decide +kernel, show (("place" : Str) == "over") = false from by decide +kernel, show (("place" : Str) == "text") = false from by decide +kernel]
theorem fv_NoRow : FvOk 4 d__law_flags "NoRow" "row" [] := fv_0 fun ea p st => by
  have hc : cntD (.list [.bool false, .bool false, .bool false, .bool false, .bool false, .bool false, .bool false, .bool false, .bool true, .bool false, .bool false, .bool false, .bool false, .bool false, .bool false, .bool false, .bool false, .bool false, .bool false, .bool false, .bool false, .bool false, .bool false, .bool false, .bool false, .bool false]) [.bool true] = some (.int 1) := rfl
  have hi : idxD (.list [.bool false, .bool false, .bool false, .bool false, .bool false, .bool false, .bool false, .bool false, .bool true, .bool false, .bool false, .bool false, .bool false, .bool false, .bool false, .bool false, .bool false, .bool false, .bool false, .bool false, .bool false, .bool false, .bool false, .bool false, .bool false, .bool false]) [.bool true] = some (.int 8) := rfl
  have hw : atD ([.str "path", .str "width", .str "place", .str "number", .str "joints", .str "longs", .str "span", .str "laying", .str "row", .str "stone", .str "fit", .str "missing", .str "nothing", .str "stock", .str "drawing", .str "wants", .str "lots", .str "order", .str "panel", .str "shift", .str "line", .str "strip", .str "great", .str "short", .str "over", .str "text"] : List PyData) 8 = some (.str "row") := rfl
  unfold mkF d__law_flags
  simp -implicitDefEqProofs [sh_isx, lstW, tupW, show decide (("NoRow" : Str) = "NoPath") = false from by decide +kernel, show decide (("NoRow" : Str) = "NoWidth") = false from by decide +kernel, show decide (("NoRow" : Str) = "NoPlace") = false from by decide +kernel, show decide (("NoRow" : Str) = "NoNumber") = false from by decide +kernel, show decide (("NoRow" : Str) = "NoJoints") = false from by decide +kernel, show decide (("NoRow" : Str) = "NoLongs") = false from by decide +kernel, show decide (("NoRow" : Str) = "NoSpan") = false from by decide +kernel, show decide (("NoRow" : Str) = "NoLaying") = false from by decide +kernel, show decide (("NoRow" : Str) = "NoStone") = false from by decide +kernel, show decide (("NoRow" : Str) = "NoFit") = false from by decide +kernel, show decide (("NoRow" : Str) = "Missing") = false from by decide +kernel, show decide (("NoRow" : Str) = "Nothing") = false from by decide +kernel, show decide (("NoRow" : Str) = "NoStock") = false from by decide +kernel, show decide (("NoRow" : Str) = "NoDrawing") = false from by decide +kernel, show decide (("NoRow" : Str) = "NoWants") = false from by decide +kernel, show decide (("NoRow" : Str) = "NoLots") = false from by decide +kernel, show decide (("NoRow" : Str) = "NoOrder") = false from by decide +kernel, show decide (("NoRow" : Str) = "NoPanel") = false from by decide +kernel, show decide (("NoRow" : Str) = "NoShift") = false from by decide +kernel, show decide (("NoRow" : Str) = "NoLine") = false from by decide +kernel, show decide (("NoRow" : Str) = "NoStrip") = false from by decide +kernel, show decide (("NoRow" : Str) = "TooGreat") = false from by decide +kernel, show decide (("NoRow" : Str) = "Short") = false from by decide +kernel, show decide (("NoRow" : Str) = "Over") = false from by decide +kernel, show decide (("NoRow" : Str) = "NoText") = false from by decide +kernel, hc, hi, hw, show (("row" : Str) == "strip") = false from by decide +kernel, show (("row" : Str) == "great") = false from by decide +kernel, show (("row" : Str) == "short") = false from by decide +kernel, show (("row" : Str) == "over") = false from by decide +kernel, show (("row" : Str) == "text") = false from by decide +kernel]
theorem fv_NoStrip : FvOk 4 d__law_flags "NoStrip" "strip" ["leg"] := fv_1 fun ea dd y1 st => by
  have hc : cntD (.list [.bool false, .bool false, .bool false, .bool false, .bool false, .bool false, .bool false, .bool false, .bool false, .bool false, .bool false, .bool false, .bool false, .bool false, .bool false, .bool false, .bool false, .bool false, .bool false, .bool false, .bool false, .bool true, .bool false, .bool false, .bool false, .bool false]) [.bool true] = some (.int 1) := rfl
  have hi : idxD (.list [.bool false, .bool false, .bool false, .bool false, .bool false, .bool false, .bool false, .bool false, .bool false, .bool false, .bool false, .bool false, .bool false, .bool false, .bool false, .bool false, .bool false, .bool false, .bool false, .bool false, .bool false, .bool true, .bool false, .bool false, .bool false, .bool false]) [.bool true] = some (.int 21) := rfl
  have hw : atD ([.str "path", .str "width", .str "place", .str "number", .str "joints", .str "longs", .str "span", .str "laying", .str "row", .str "stone", .str "fit", .str "missing", .str "nothing", .str "stock", .str "drawing", .str "wants", .str "lots", .str "order", .str "panel", .str "shift", .str "line", .str "strip", .str "great", .str "short", .str "over", .str "text"] : List PyData) 21 = some (.str "strip") := rfl
  have hx0 := fun env st => sh_xfO (fl := fldX) (ea := ea) (dd := dd) (xn := "NoStrip") (f := "leg") (es := [("leg", y1)]) (y := y1) (by decide +kernel) rfl env st
  unfold mkF d__law_flags
  simp -implicitDefEqProofs [sh_isx2, lstW, tupW, show decide (("NoStrip" : Str) = "NoPath") = false from by decide +kernel, show decide (("NoStrip" : Str) = "NoWidth") = false from by decide +kernel, show decide (("NoStrip" : Str) = "NoPlace") = false from by decide +kernel, show decide (("NoStrip" : Str) = "NoNumber") = false from by decide +kernel, show decide (("NoStrip" : Str) = "NoJoints") = false from by decide +kernel, show decide (("NoStrip" : Str) = "NoLongs") = false from by decide +kernel, show decide (("NoStrip" : Str) = "NoSpan") = false from by decide +kernel, show decide (("NoStrip" : Str) = "NoLaying") = false from by decide +kernel, show decide (("NoStrip" : Str) = "NoRow") = false from by decide +kernel, show decide (("NoStrip" : Str) = "NoStone") = false from by decide +kernel, show decide (("NoStrip" : Str) = "NoFit") = false from by decide +kernel, show decide (("NoStrip" : Str) = "Missing") = false from by decide +kernel, show decide (("NoStrip" : Str) = "Nothing") = false from by decide +kernel, show decide (("NoStrip" : Str) = "NoStock") = false from by decide +kernel, show decide (("NoStrip" : Str) = "NoDrawing") = false from by decide +kernel, show decide (("NoStrip" : Str) = "NoWants") = false from by decide +kernel, show decide (("NoStrip" : Str) = "NoLots") = false from by decide +kernel, show decide (("NoStrip" : Str) = "NoOrder") = false from by decide +kernel, show decide (("NoStrip" : Str) = "NoPanel") = false from by decide +kernel, show decide (("NoStrip" : Str) = "NoShift") = false from by decide +kernel, show decide (("NoStrip" : Str) = "NoLine") = false from by decide +kernel, show decide (("NoStrip" : Str) = "TooGreat") = false from by decide +kernel, show decide (("NoStrip" : Str) = "Short") = false from by decide +kernel, show decide (("NoStrip" : Str) = "Over") = false from by decide +kernel, show decide (("NoStrip" : Str) = "NoText") = false from by decide +kernel, hc, hi, hw, show (("strip" : Str) == "great") = false from by decide +kernel, show (("strip" : Str) == "short") = false from by decide +kernel, show (("strip" : Str) == "over") = false from by decide +kernel, show (("strip" : Str) == "text") = false from by decide +kernel, hx0]
abbrev Sd__law_word (M : Md) : Prop := SaidT M "_law_word" 0 4 told__law_word fl__law_word d__law_flags (XcA M "StoneError" ysX fldX)
theorem h__law_word {M : Md} (T : Hs M) (F : FlT M) (TF : TopFn M "_law_word" s__law_word ["_law_call"]) : Sd__law_word M := by
  obtain ⟨CS, hCS⟩ := T.e_StoneError
  refine saidT_of (CSn := "StoneError") (CS := CS) TF sc__law_word ⟨by decide, by decide⟩ hCS (fun X g cd q e1 e2 e3 e4 e5 hr => said_givesT e1 e2 e3 e4 e5 F hr sc__law_word rfl rfl rfl hCS (by decide) (by decide) (by decide) (by decide)) (flL_ok (l := flT__law_word) ?_)
  exact flL_cons T.e_NoJoints fv_NoJoints (flL_cons T.e_NoPlace fv_NoPlace (flL_cons T.e_NoRow fv_NoRow (flL_cons T.e_NoStrip fv_NoStrip (flL_nil))))
abbrev s_quarter : Stmt := topS 38
def B_quarter : Tb := ⟨["one", "other"], [0, 1], [0, 1], [0, 1], ["WAYS"], [], true, false, none⟩
theorem sc_quarter : FnScope B_quarter.N ["one", "other"] (defScope s_quarter) := ⟨rfl, rfl, rfl, by decide +kernel, rfl, by decide +kernel, by decide +kernel⟩
theorem t_quarter : fnT B_quarter (defScope s_quarter) = true := by decide +kernel
noncomputable def d_quarter : En → Sto → SR :=
    (sRet (eOp2 modD (eOp2 subD (eGix y_WAYS (aCons (eVar 1) aNil)) (eGix y_WAYS (aCons (eVar 0) aNil))) (eK (.int 4))))
noncomputable def m_quarter : List Wv → Sto → Rs Wv := mkF 2 2 d_quarter
theorem b_quarter {M : Md} {X : Cx} (T : Hs M)  (c : Cxt M X B_quarter 0) : DB X (defBody s_quarter) d_quarter :=
    (db_one (ds_ret (de_bin o_mod (de_bin o_sub (ix_WAYS T c 0 rfl (da_cons (de_var c 1 rfl (by decide)) da_nil)) (ix_WAYS T c 0 rfl (da_cons (de_var c 0 rfl (by decide)) da_nil))) de_int)))
theorem h_quarter {M : Md} (T : Hs M)  (F : TopFn M "quarter" s_quarter ["one", "other"]) : Has M false 1 "quarter" ["one", "other"] m_quarter := has_of F sc_quarter t_quarter rfl rfl (fun X c => b_quarter T  c)
abbrev s_bend_sides : Stmt := topS 42
def B_bend_sides : Tb := ⟨["path", "turns", ".0", "one", "other", "turn"], [0, 1], [0, 1], [0, 1], ["zip"], [], true, false, none⟩
theorem sc_bend_sides : FnScope B_bend_sides.N ["path"] (defScope s_bend_sides) := ⟨rfl, rfl, rfl, by decide +kernel, rfl, by decide +kernel, by decide +kernel⟩
theorem t_bend_sides : fnT B_bend_sides (defScope s_bend_sides) = true := by decide +kernel
noncomputable def d_bend_sides : En → Sto → SR :=
    (sSeq (sSet 1 (eLc (cZip2 (aCons (eOp2 ixD (eVar 0) (eK (.int 2))) (aCons (eSlice (eOp2 ixD (eVar 0) (eK (.int 2))) (pSome (eK (.int 1))) pNo) aNil))) (gTp (gCn (gN 3) (gCn (gN 4) gNl))) tYs (eCall m_quarter (aCons (eOp2 ixD (eVar 3) (eK (.int 0))) (aCons (eOp2 ixD (eVar 4) (eK (.int 0))) aNil))) [2, 3, 4]))
    (sRet (eLc (cSeq (eVar 1)) (gN 5) tYs (eIf (tBl (eOp2 eqD (eVar 5) (eK (.int 1)))) (eK (.str "left")) (eK (.str "right"))) [2, 5])))
noncomputable def m_bend_sides : List Wv → Sto → Rs Wv := mkF 1 6 d_bend_sides
theorem b_bend_sides {M : Md} {X : Cx} (T : Hs M) (h_quarter : Has M false 1 "quarter" ["one", "other"] m_quarter) (c : Cxt M X B_bend_sides 1) : DB X (defBody s_bend_sides) d_bend_sides :=
    (db_cons (ds_setlc c 1 rfl (by decide) rfl (lc_ok c [(".0", 2), ("one", 3), ("other", 4)] [2, 3, 4] [2, 3, 4] ["quarter"] [] (by decide +kernel) (di_zip2 c 0 rfl T.z_zip (da_cons (de_ix c.roomH (de_var c 0 rfl (by decide)) de_int (fun _ _ => rfl)) (da_cons (de_slice (de_ix c.roomH (de_var c 0 rfl (by decide)) de_int (fun _ _ => rfl)) (do_some de_int) do_no) da_nil))) (by decide) (fun _ c4 => (dg_tup c4 (dgs_cons (dg_name c4 [2, 3, 4] 3 rfl (by decide) (by decide)) (dgs_cons (dg_name c4 [2, 3, 4] 4 rfl (by decide) (by decide)) (dgs_nil [2, 3, 4]))) (asks_cons (asks_cons asks_nil)))) (fun _ c4 => dts_nil) (fun _ c4 => (de_fn c4 (h_quarter.up (by decide)) 0 rfl (da_cons (de_ix c4.roomH (de_var c4 3 rfl (by decide)) de_int (fun _ _ => rfl)) (da_cons (de_ix c4.roomH (de_var c4 4 rfl (by decide)) de_int (fun _ _ => rfl)) da_nil))))) rfl (by decide +kernel))
    (db_one (ds_ret (de_lc c (lc_ok c [(".0", 2), ("turn", 5)] [2, 5] [2, 5] [] [] (by decide +kernel) (di_seq (de_var c 1 rfl (by decide))) (by decide) (fun _ c5 => (dg_name c5 [2, 5] 5 rfl (by decide) (by decide))) (fun _ c5 => dts_nil) (fun _ c5 => (de_if (dt_cmp (o_eq c5.roomH) (de_var c5 5 rfl (by decide)) de_int (nomark _)) de_str de_str)))))))
theorem h_bend_sides {M : Md} (T : Hs M) (h_quarter : Has M false 1 "quarter" ["one", "other"] m_quarter) (F : TopFn M "bend_sides" s_bend_sides ["path"]) : Has M false 2 "bend_sides" ["path"] m_bend_sides := has_of F sc_bend_sides t_bend_sides rfl rfl (fun X c => b_bend_sides T h_quarter c)
abbrev s_gone : Stmt := topS 40
def B_gone : Tb := ⟨["x", "y", "way", "far", "step"], [0, 1, 2, 3, 4], [0, 1, 2, 3, 4], [0, 1, 2, 3, 4], ["STEPS", "WAYS"], [], true, false, none⟩
theorem sc_gone : FnScope B_gone.N ["x", "y", "way", "far"] (defScope s_gone) := ⟨rfl, rfl, rfl, by decide +kernel, rfl, by decide +kernel, by decide +kernel⟩
theorem t_gone : fnT B_gone (defScope s_gone) = true := by decide +kernel
noncomputable def d_gone : En → Sto → SR :=
    (sSeq (sSet 4 (eOp2 ixD (eK w_STEPS) (eGix y_WAYS (aCons (eVar 2) aNil))))
    (sRet (eTup (aCons (eOp2 addD (eVar 0) (eOp2 mulD (eVar 3) (eOp2 ixD (eVar 4) (eK (.int 0))))) (aCons (eOp2 addD (eVar 1) (eOp2 mulD (eVar 3) (eOp2 ixD (eVar 4) (eK (.int 1))))) aNil)))))
noncomputable def m_gone : List Wv → Sto → Rs Wv := mkF 4 5 d_gone
theorem b_gone {M : Md} {X : Cx} (T : Hs M)  (c : Cxt M X B_gone 0) : DB X (defBody s_gone) d_gone :=
    (db_cons (ds_set c 4 rfl (by decide) (de_ix c.roomH (q_STEPS T c 0 rfl) (ix_WAYS T c 1 rfl (da_cons (de_var c 2 rfl (by decide)) da_nil)) (fun _ _ => rfl)))
    (db_one (ds_ret (de_tup (da_cons (de_bin o_add (de_var c 0 rfl (by decide)) (de_bin o_mul (de_var c 3 rfl (by decide)) (de_ix c.roomH (de_var c 4 rfl (by decide)) de_int (fun _ _ => rfl)))) (da_cons (de_bin o_add (de_var c 1 rfl (by decide)) (de_bin o_mul (de_var c 3 rfl (by decide)) (de_ix c.roomH (de_var c 4 rfl (by decide)) de_int (fun _ _ => rfl)))) da_nil))))))
theorem h_gone {M : Md} (T : Hs M)  (F : TopFn M "gone" s_gone ["x", "y", "way", "far"]) : Has M false 1 "gone" ["x", "y", "way", "far"] m_gone := has_of F sc_gone t_gone rfl rfl (fun X c => b_gone T  c)
abbrev s_leg_points : Stmt := topS 41
def B_leg_points : Tb := ⟨["path", "found", "way", "long"], [0, 1, 2, 3], [0, 1, 2, 3], [0, 1, 2, 3], ["gone"], [], true, false, none⟩
theorem sc_leg_points : FnScope B_leg_points.N ["path"] (defScope s_leg_points) := ⟨rfl, rfl, rfl, by decide +kernel, rfl, by decide +kernel, by decide +kernel⟩
theorem t_leg_points : fnT B_leg_points (defScope s_leg_points) = true := by decide +kernel
noncomputable def d_leg_points_l1 : En → Sto → SR :=
    (sExp (eM appW (eVar 1) (aCons (eCall m_gone (aCons (eOp2 ixD (eOp2 ixD (eVar 1) (eOp1 negD (eK (.int 1)))) (eK (.int 0))) (aCons (eOp2 ixD (eOp2 ixD (eVar 1) (eOp1 negD (eK (.int 1)))) (eK (.int 1))) (aCons (eVar 2) (aCons (eVar 3) aNil))))) aNil)))
noncomputable def d_leg_points : En → Sto → SR :=
    (sSeq (sSet 1 (eNewL (aCons (eSlice (eVar 0) pNo (pSome (eK (.int 2)))) aNil)))
    (sSeq (sFor (cSeq (eOp2 ixD (eVar 0) (eK (.int 2)))) (gTp (gCn (gN 2) (gCn (gN 3) gNl))) d_leg_points_l1)
    (sRetF (eVar 1))))
noncomputable def m_leg_points : List Wv → Sto → Rs Wv := mkF 1 4 d_leg_points
theorem b_leg_points {M : Md} {X : Cx} (T : Hs M) (h_gone : Has M false 1 "gone" ["x", "y", "way", "far"] m_gone) (c : Cxt M X B_leg_points 1) : DB X (defBody s_leg_points) d_leg_points :=
    (db_cons (ds_set c 1 rfl (by decide) (de_newl (da_cons (de_slice (de_var c 0 rfl (by decide)) do_no (do_some de_int)) da_nil)))
    (db_cons (ds_for c [2, 3] (di_seq (de_ix c.roomH (de_var c 0 rfl (by decide)) de_int (fun _ _ => rfl))) (dg_tup c (dgs_cons (dg_name c [2, 3] 2 rfl (by decide) (by decide)) (dgs_cons (dg_name c [2, 3] 3 rfl (by decide) (by decide)) (dgs_nil [2, 3]))) (asks_cons (asks_cons asks_nil)))
    (db_one (ds_exp (de_append (de_var c 1 rfl (by decide)) (da_cons (de_fn c (h_gone.up (by decide)) 0 rfl (da_cons (de_ix c.roomH (de_ix c.roomH (de_var c 1 rfl (by decide)) (de_un o_neg de_int) (fun _ _ => rfl)) de_int (fun _ _ => rfl)) (da_cons (de_ix c.roomH (de_ix c.roomH (de_var c 1 rfl (by decide)) (de_un o_neg de_int) (fun _ _ => rfl)) de_int (fun _ _ => rfl)) (da_cons (de_var c 2 rfl (by decide)) (da_cons (de_var c 3 rfl (by decide)) da_nil))))) da_nil)))))
    (db_one (ds_retf (de_var c 1 rfl (by decide))))))
theorem h_leg_points {M : Md} (T : Hs M) (h_gone : Has M false 1 "gone" ["x", "y", "way", "far"] m_gone) (F : TopFn M "leg_points" s_leg_points ["path"]) : Has M false 2 "leg_points" ["path"] m_leg_points := has_of F sc_leg_points t_leg_points rfl rfl (fun X c => b_leg_points T h_gone c)
abbrev s_strips_by : Stmt := topS 43
def B_strips_by : Tb := ⟨["path", "width", "turns", "points", "found", "leg", "way", "long", "ahead", "more", "here", "x", "y"], [0, 1, 2, 3, 4, 5, 6, 7, 8, 9, 10, 11, 12], [0, 1, 2, 3, 4, 5, 6, 7, 8, 9, 10, 11, 12], [0, 1, 2, 3, 4, 5, 6, 7, 8, 9, 10, 11, 12], ["bend_sides", "leg_points", "enumerate", "len", "NoStrip", "gone"], [], true, false, none⟩
theorem sc_strips_by : FnScope B_strips_by.N ["path", "width"] (defScope s_strips_by) := ⟨rfl, rfl, rfl, by decide +kernel, rfl, by decide +kernel, by decide +kernel⟩
theorem t_strips_by : fnT B_strips_by (defScope s_strips_by) = true := by decide +kernel
noncomputable def d_strips_by_l1 : En → Sto → SR :=
    (sWp [5, 6, 7, 8, 9, 10, 11, 12] (sSeq (sSet 8 (eIf (tAnd2 (tBl (eOp2 gtD (eVar 5) (eK (.int 0)))) (tBl (eOp2 eqD (eOp2 ixD (eVar 2) (eOp2 subD (eVar 5) (eK (.int 1)))) (eK (.str "left"))))) (eVar 1) (eK (.int 0))))
    (sSeq (sSet 9 (eIf (tAnd2 (tBl (eOp2 ltD (eVar 5) (eOpN lenF (aCons (eVar 2) aNil)))) (tBl (eOp2 eqD (eOp2 ixD (eVar 2) (eVar 5)) (eK (.str "right"))))) (eVar 1) (eK (.int 0))))
    (sSeq (sSet 10 (eOp2 subD (eOp2 addD (eVar 7) (eVar 9)) (eVar 8)))
    (sSeq (sIf (tBl (eOp2 ltD (eVar 10) (eK (.int 1)))) (sRaiseF "NoStrip" ["leg"] (aCons (eVar 5) aNil)) sNil)
    (sSeq (sAsg (gTp (gCn (gN 11) (gCn (gN 12) gNl))) (eCall m_gone (aCons (eOp2 ixD (eOp2 ixD (eVar 3) (eVar 5)) (eK (.int 0))) (aCons (eOp2 ixD (eOp2 ixD (eVar 3) (eVar 5)) (eK (.int 1))) (aCons (eVar 6) (aCons (eVar 8) aNil))))))
    (sExp (eM appW (eVar 4) (aCons (eTup (aCons (eVar 11) (aCons (eVar 12) (aCons (eVar 6) (aCons (eVar 10) aNil))))) aNil)))))))))
noncomputable def d_strips_by : En → Sto → SR :=
    (sSeq (sSet 2 (eCall m_bend_sides (aCons (eVar 0) aNil)))
    (sSeq (sSet 3 (eCall m_leg_points (aCons (eVar 0) aNil)))
    (sSeq (sSet 4 (eNewL aNil))
    (sSeq (sFor (cEnum (aCons (eOp2 ixD (eVar 0) (eK (.int 2))) aNil)) (gTp (gCn (gN 5) (gCn (gTp (gCn (gN 6) (gCn (gN 7) gNl))) gNl))) d_strips_by_l1)
    (sRetF (eVar 4))))))
noncomputable def m_strips_by : List Wv → Sto → Rs Wv := mkF 2 13 d_strips_by
theorem b_strips_by {M : Md} {X : Cx} (T : Hs M) (h_bend_sides : Has M false 2 "bend_sides" ["path"] m_bend_sides) (h_gone : Has M false 1 "gone" ["x", "y", "way", "far"] m_gone) (h_leg_points : Has M false 2 "leg_points" ["path"] m_leg_points) (c : Cxt M X B_strips_by 2) : DB X (defBody s_strips_by) d_strips_by :=
    (db_cons (ds_set c 2 rfl (by decide) (de_fn c (h_bend_sides.up (by decide)) 0 rfl (da_cons (de_var c 0 rfl (by decide)) da_nil)))
    (db_cons (ds_set c 3 rfl (by decide) (de_fn c (h_leg_points.up (by decide)) 1 rfl (da_cons (de_var c 0 rfl (by decide)) da_nil)))
    (db_cons (ds_set c 4 rfl (by decide) (de_newl da_nil))
    (db_cons (ds_for c [5, 6, 7] (di_enum c 2 rfl T.z_enumerate (da_cons (de_ix c.roomH (de_var c 0 rfl (by decide)) de_int (fun _ _ => rfl)) da_nil)) (dg_tup c (dgs_cons (dg_name c [5, 6, 7] 5 rfl (by decide) (by decide)) (dgs_cons (dg_tup c (dgs_cons (dg_name c [5, 6, 7] 6 rfl (by decide) (by decide)) (dgs_cons (dg_name c [5, 6, 7] 7 rfl (by decide) (by decide)) (dgs_nil [5, 6, 7]))) (asks_cons (asks_cons asks_nil))) (dgs_nil [5, 6, 7]))) (asks_cons (asks_cons asks_nil)))
    (db_wp [5, 6, 7, 8, 9, 10, 11, 12] (db_cons (ds_set c 8 rfl (by decide) (de_if (DW.dt (dw_and (dt_cmp (o_gt c.roomH) (de_var c 5 rfl (by decide)) de_int (nomark _)) (dw_and1 (dt_cmp (o_eq c.roomH) (de_ix c.roomH (de_var c 2 rfl (by decide)) (de_bin o_sub (de_var c 5 rfl (by decide)) de_int) (fun _ _ => rfl)) de_str (nomark _))))) (de_var c 1 rfl (by decide)) de_int))
    (db_cons (ds_set c 9 rfl (by decide) (de_if (DW.dt (dw_and (dt_cmp (o_lt c.roomH) (de_var c 5 rfl (by decide)) (de_callB (id := "len") c c_len 3 rfl T.z_len (by decide +kernel) (da_cons (de_var c 2 rfl (by decide)) da_nil)) (nomark _)) (dw_and1 (dt_cmp (o_eq c.roomH) (de_ix c.roomH (de_var c 2 rfl (by decide)) (de_var c 5 rfl (by decide)) (fun _ _ => rfl)) de_str (nomark _))))) (de_var c 1 rfl (by decide)) de_int))
    (db_cons (ds_set c 10 rfl (by decide) (de_bin o_sub (de_bin o_add (de_var c 7 rfl (by decide)) (de_var c 9 rfl (by decide))) (de_var c 8 rfl (by decide))))
    (db_cons (ds_if (dt_cmp (o_lt c.roomH) (de_var c 10 rfl (by decide)) de_int (nomark _)) (db_one (ds_raiseF c (by decide) 4 rfl T.f_NoStrip (da_cons (de_var c 5 rfl (by decide)) da_nil))) db_nil)
    (db_cons (ds_asg (de_fn c (h_gone.up (by decide)) 5 rfl (da_cons (de_ix c.roomH (de_ix c.roomH (de_var c 3 rfl (by decide)) (de_var c 5 rfl (by decide)) (fun _ _ => rfl)) de_int (fun _ _ => rfl)) (da_cons (de_ix c.roomH (de_ix c.roomH (de_var c 3 rfl (by decide)) (de_var c 5 rfl (by decide)) (fun _ _ => rfl)) de_int (fun _ _ => rfl)) (da_cons (de_var c 6 rfl (by decide)) (da_cons (de_var c 8 rfl (by decide)) da_nil))))) (dg_tup c (dgs_cons (dg_name c [11, 12] 11 rfl (by decide) (by decide)) (dgs_cons (dg_name c [11, 12] 12 rfl (by decide) (by decide)) (dgs_nil [11, 12]))) (asks_cons (asks_cons asks_nil))))
    (db_one (ds_exp (de_append (de_var c 4 rfl (by decide)) (da_cons (de_tup (da_cons (de_var c 11 rfl (by decide)) (da_cons (de_var c 12 rfl (by decide)) (da_cons (de_var c 6 rfl (by decide)) (da_cons (de_var c 10 rfl (by decide)) da_nil))))) da_nil)))))))))))
    (db_one (ds_retf (de_var c 4 rfl (by decide))))))))
theorem h_strips_by {M : Md} (T : Hs M) (h_bend_sides : Has M false 2 "bend_sides" ["path"] m_bend_sides) (h_gone : Has M false 1 "gone" ["x", "y", "way", "far"] m_gone) (h_leg_points : Has M false 2 "leg_points" ["path"] m_leg_points) (F : TopFn M "strips_by" s_strips_by ["path", "width"]) : Has M false 3 "strips_by" ["path", "width"] m_strips_by := has_of F sc_strips_by t_strips_by rfl rfl (fun X c => b_strips_by T h_bend_sides h_gone h_leg_points c)
abbrev s_is_whole : Stmt := topS 35
def B_is_whole : Tb := ⟨["thing"], [0], [0], [0], ["isinstance", "int", "bool"], [], true, false, none⟩
theorem sc_is_whole : FnScope B_is_whole.N ["thing"] (defScope s_is_whole) := ⟨rfl, rfl, rfl, by decide +kernel, rfl, by decide +kernel, by decide +kernel⟩
theorem t_is_whole : fnT B_is_whole (defScope s_is_whole) = true := by decide +kernel
noncomputable def d_is_whole : En → Sto → SR :=
    (sRet (eAnd2 (eOp1 (isaD "int") (eVar 0)) (eNot1 (eOp1 (isaD "bool") (eVar 0)))))
noncomputable def m_is_whole : List Wv → Sto → Rs Wv := mkF 1 1 d_is_whole
theorem b_is_whole {M : Md} {X : Cx} (T : Hs M)  (c : Cxt M X B_is_whole 0) : DB X (defBody s_is_whole) d_is_whole :=
    (db_one (ds_ret (de_and (de_isa c 0 1 rfl T.z_isinstance rfl T.z_int (by decide +kernel) (de_var c 0 rfl (by decide))) (de_one (de_not (de_isa c 0 2 rfl T.z_isinstance rfl T.z_bool (by decide +kernel) (de_var c 0 rfl (by decide))))))))
theorem h_is_whole {M : Md} (T : Hs M)  (F : TopFn M "is_whole" s_is_whole ["thing"]) : Has M false 1 "is_whole" ["thing"] m_is_whole := has_of F sc_is_whole t_is_whole rfl rfl (fun X c => b_is_whole T  c)
abbrev s_is_from_to : Stmt := topS 36
def B_is_from_to : Tb := ⟨["thing", "least", "most"], [0, 1, 2], [0, 1, 2], [0, 1, 2], ["is_whole"], [], true, false, none⟩
theorem sc_is_from_to : FnScope B_is_from_to.N ["thing", "least", "most"] (defScope s_is_from_to) := ⟨rfl, rfl, rfl, by decide +kernel, rfl, by decide +kernel, by decide +kernel⟩
theorem t_is_from_to : fnT B_is_from_to (defScope s_is_from_to) = true := by decide +kernel
noncomputable def d_is_from_to : En → Sto → SR :=
    (sRet (eAnd2 (eCall m_is_whole (aCons (eVar 0) aNil)) (eChain leD leD (eVar 1) (eVar 0) (eVar 2))))
noncomputable def m_is_from_to : List Wv → Sto → Rs Wv := mkF 3 3 d_is_from_to
theorem b_is_from_to {M : Md} {X : Cx} (T : Hs M) (h_is_whole : Has M false 1 "is_whole" ["thing"] m_is_whole) (c : Cxt M X B_is_from_to 1) : DB X (defBody s_is_from_to) d_is_from_to :=
    (db_one (ds_ret (de_and (de_fn c (h_is_whole.up (by decide)) 0 rfl (da_cons (de_var c 0 rfl (by decide)) da_nil)) (de_one (de_chain (o_le c.roomH) (o_le c.roomH) (de_var c 1 rfl (by decide)) (de_var c 0 rfl (by decide)) (de_var c 2 rfl (by decide)))))))
theorem h_is_from_to {M : Md} (T : Hs M) (h_is_whole : Has M false 1 "is_whole" ["thing"] m_is_whole) (F : TopFn M "is_from_to" s_is_from_to ["thing", "least", "most"]) : Has M false 2 "is_from_to" ["thing", "least", "most"] m_is_from_to := has_of F sc_is_from_to t_is_from_to rfl rfl (fun X c => b_is_from_to T h_is_whole c)
abbrev s_is_leg : Stmt := topS 37
def B_is_leg : Tb := ⟨["thing"], [0], [0], [0], ["isinstance", "tuple", "len", "str", "WAYS", "is_from_to", "MOST_LONG"], [], true, false, none⟩
theorem sc_is_leg : FnScope B_is_leg.N ["thing"] (defScope s_is_leg) := ⟨rfl, rfl, rfl, by decide +kernel, rfl, by decide +kernel, by decide +kernel⟩
theorem t_is_leg : fnT B_is_leg (defScope s_is_leg) = true := by decide +kernel
noncomputable def d_is_leg : En → Sto → SR :=
    (sSeq (sIf (tOr2 (tNot1 (tTru (eOp1 (isaD "tuple") (eVar 0)))) (tOr2 (tBl (eOp2 neD (eOpN lenF (aCons (eVar 0) aNil)) (eK (.int 2)))) (tOr2 (tNot1 (tTru (eOp1 (isaD "str") (eOp2 ixD (eVar 0) (eK (.int 0)))))) (tBl (eOp2 niD (eOp2 ixD (eVar 0) (eK (.int 0))) (eK w_WAYS)))))) (sRet (eK (.bool false))) sNil)
    (sRet (eCall m_is_from_to (aCons (eOp2 ixD (eVar 0) (eK (.int 1))) (aCons (eK (.int 1)) (aCons (eK w_MOST_LONG) aNil))))))
noncomputable def m_is_leg : List Wv → Sto → Rs Wv := mkF 1 1 d_is_leg
theorem b_is_leg {M : Md} {X : Cx} (T : Hs M) (h_is_from_to : Has M false 2 "is_from_to" ["thing", "least", "most"] m_is_from_to) (c : Cxt M X B_is_leg 2) : DB X (defBody s_is_leg) d_is_leg :=
    (db_cons (ds_if (DW.dt (dw_or (dt_not (dt_val (de_isa c 0 1 rfl T.z_isinstance rfl T.z_tuple (by decide +kernel) (de_var c 0 rfl (by decide))))) (dw_or (dt_cmp (o_ne c.roomH) (de_callB (id := "len") c c_len 2 rfl T.z_len (by decide +kernel) (da_cons (de_var c 0 rfl (by decide)) da_nil)) de_int (nomark _)) (dw_or (dt_not (dt_val (de_isa c 0 3 rfl T.z_isinstance rfl T.z_str (by decide +kernel) (de_ix c.roomH (de_var c 0 rfl (by decide)) de_int (fun _ _ => rfl))))) (dw_or1 (dt_cmp (o_ni c.roomH) (de_ix c.roomH (de_var c 0 rfl (by decide)) de_int (fun _ _ => rfl)) (q_WAYS T c 4 rfl) rfl)))))) (db_one (ds_ret de_bl)) db_nil)
    (db_one (ds_ret (de_fn c (h_is_from_to.up (by decide)) 5 rfl (da_cons (de_ix c.roomH (de_var c 0 rfl (by decide)) de_int (fun _ _ => rfl)) (da_cons de_int (da_cons (q_MOST_LONG T c 6 rfl) da_nil)))))))
theorem h_is_leg {M : Md} (T : Hs M) (h_is_from_to : Has M false 2 "is_from_to" ["thing", "least", "most"] m_is_from_to) (F : TopFn M "is_leg" s_is_leg ["thing"]) : Has M false 3 "is_leg" ["thing"] m_is_leg := has_of F sc_is_leg t_is_leg rfl rfl (fun X c => b_is_leg T h_is_from_to c)
abbrev s_is_path : Stmt := topS 39
def B_is_path : Tb := ⟨["thing", ".0", "one", "other", "leg"], [0], [0], [0], ["isinstance", "tuple", "len", "is_from_to", "MOST_FAR", "MOST_LEGS", "all", "zip"], [], true, false, none⟩
theorem sc_is_path : FnScope B_is_path.N ["thing"] (defScope s_is_path) := ⟨rfl, rfl, rfl, by decide +kernel, rfl, by decide +kernel, by decide +kernel⟩
theorem t_is_path : fnT B_is_path (defScope s_is_path) = true := by decide +kernel
noncomputable def d_is_path : En → Sto → SR :=
    (sSeq (sIf (tOr2 (tNot1 (tTru (eOp1 (isaD "tuple") (eVar 0)))) (tOr2 (tBl (eOp2 neD (eOpN lenF (aCons (eVar 0) aNil)) (eK (.int 3)))) (tNot1 (tTru (eOp1 (isaD "tuple") (eOp2 ixD (eVar 0) (eK (.int 2)))))))) (sRet (eK (.bool false))) sNil)
    (sSeq (sIf (tOr2 (tNot1 (tTru (eCall m_is_from_to (aCons (eOp2 ixD (eVar 0) (eK (.int 0))) (aCons (eOp2 subD (eK (.int 0)) (eK w_MOST_FAR)) (aCons (eK w_MOST_FAR) aNil)))))) (tNot1 (tTru (eCall m_is_from_to (aCons (eOp2 ixD (eVar 0) (eK (.int 1))) (aCons (eOp2 subD (eK (.int 0)) (eK w_MOST_FAR)) (aCons (eK w_MOST_FAR) aNil))))))) (sRet (eK (.bool false))) sNil)
    (sSeq (sIf (tOr2 (tNot1 (tBl (eChain leD leD (eK (.int 1)) (eOpN lenF (aCons (eOp2 ixD (eVar 0) (eK (.int 2))) aNil)) (eK w_MOST_LEGS)))) (tNot1 (tTru (eOpN allF (aCons (eLc (cSeq (eOp2 ixD (eVar 0) (eK (.int 2)))) (gN 4) tYs (eCall m_is_leg (aCons (eVar 4) aNil)) [1, 4]) aNil))))) (sRet (eK (.bool false))) sNil)
    (sRet (eOpN allF (aCons (eLc (cZip2 (aCons (eOp2 ixD (eVar 0) (eK (.int 2))) (aCons (eSlice (eOp2 ixD (eVar 0) (eK (.int 2))) (pSome (eK (.int 1))) pNo) aNil))) (gTp (gCn (gN 2) (gCn (gN 3) gNl))) tYs (eOp2 inD (eCall m_quarter (aCons (eOp2 ixD (eVar 2) (eK (.int 0))) (aCons (eOp2 ixD (eVar 3) (eK (.int 0))) aNil))) (eTup (aCons (eK (.int 1)) (aCons (eK (.int 3)) aNil)))) [1, 2, 3]) aNil))))))
noncomputable def m_is_path : List Wv → Sto → Rs Wv := mkF 1 5 d_is_path
theorem b_is_path {M : Md} {X : Cx} (T : Hs M) (h_is_from_to : Has M false 2 "is_from_to" ["thing", "least", "most"] m_is_from_to) (h_is_leg : Has M false 3 "is_leg" ["thing"] m_is_leg) (h_quarter : Has M false 1 "quarter" ["one", "other"] m_quarter) (c : Cxt M X B_is_path 3) : DB X (defBody s_is_path) d_is_path :=
    (db_cons (ds_if (DW.dt (dw_or (dt_not (dt_val (de_isa c 0 1 rfl T.z_isinstance rfl T.z_tuple (by decide +kernel) (de_var c 0 rfl (by decide))))) (dw_or (dt_cmp (o_ne c.roomH) (de_callB (id := "len") c c_len 2 rfl T.z_len (by decide +kernel) (da_cons (de_var c 0 rfl (by decide)) da_nil)) de_int (nomark _)) (dw_or1 (dt_not (dt_val (de_isa c 0 1 rfl T.z_isinstance rfl T.z_tuple (by decide +kernel) (de_ix c.roomH (de_var c 0 rfl (by decide)) de_int (fun _ _ => rfl))))))))) (db_one (ds_ret de_bl)) db_nil)
    (db_cons (ds_if (DW.dt (dw_or (dt_not (dt_val (de_fn c (h_is_from_to.up (by decide)) 3 rfl (da_cons (de_ix c.roomH (de_var c 0 rfl (by decide)) de_int (fun _ _ => rfl)) (da_cons (de_bin o_sub de_int (q_MOST_FAR T c 4 rfl)) (da_cons (q_MOST_FAR T c 4 rfl) da_nil)))))) (dw_or1 (dt_not (dt_val (de_fn c (h_is_from_to.up (by decide)) 3 rfl (da_cons (de_ix c.roomH (de_var c 0 rfl (by decide)) de_int (fun _ _ => rfl)) (da_cons (de_bin o_sub de_int (q_MOST_FAR T c 4 rfl)) (da_cons (q_MOST_FAR T c 4 rfl) da_nil))))))))) (db_one (ds_ret de_bl)) db_nil)
    (db_cons (ds_if (DW.dt (dw_or (dt_not (dt_chain (o_le c.roomH) (o_le c.roomH) de_int (de_callB (id := "len") c c_len 2 rfl T.z_len (by decide +kernel) (da_cons (de_ix c.roomH (de_var c 0 rfl (by decide)) de_int (fun _ _ => rfl)) da_nil)) (q_MOST_LEGS T c 5 rfl))) (dw_or1 (dt_not (dt_val (de_callB (id := "all") c (c_all c.calm) 6 rfl T.z_all (by decide +kernel) (da_cons (de_lc c (lc_ok c [(".0", 1), ("leg", 4)] [1, 4] [1, 4] ["is_leg"] [] (by decide +kernel) (di_seq (de_ix c.roomH (de_var c 0 rfl (by decide)) de_int (fun _ _ => rfl))) (by decide) (fun _ c6 => (dg_name c6 [1, 4] 4 rfl (by decide) (by decide))) (fun _ c6 => dts_nil) (fun _ c6 => (de_fn c6 (h_is_leg.up (by decide)) 0 rfl (da_cons (de_var c6 4 rfl (by decide)) da_nil))))) da_nil))))))) (db_one (ds_ret de_bl)) db_nil)
    (db_one (ds_ret (de_callB (id := "all") c (c_all c.calm) 6 rfl T.z_all (by decide +kernel) (da_cons (de_lc c (lc_ok c [(".0", 1), ("one", 2), ("other", 3)] [1, 2, 3] [1, 2, 3] ["quarter"] [] (by decide +kernel) (di_zip2 c 7 rfl T.z_zip (da_cons (de_ix c.roomH (de_var c 0 rfl (by decide)) de_int (fun _ _ => rfl)) (da_cons (de_slice (de_ix c.roomH (de_var c 0 rfl (by decide)) de_int (fun _ _ => rfl)) (do_some de_int) do_no) da_nil))) (by decide) (fun _ c7 => (dg_tup c7 (dgs_cons (dg_name c7 [1, 2, 3] 2 rfl (by decide) (by decide)) (dgs_cons (dg_name c7 [1, 2, 3] 3 rfl (by decide) (by decide)) (dgs_nil [1, 2, 3]))) (asks_cons (asks_cons asks_nil)))) (fun _ c7 => dts_nil) (fun _ c7 => (de_cmp (o_in c7.roomH) (de_fn c7 (h_quarter.up (by decide)) 0 rfl (da_cons (de_ix c7.roomH (de_var c7 2 rfl (by decide)) de_int (fun _ _ => rfl)) (da_cons (de_ix c7.roomH (de_var c7 3 rfl (by decide)) de_int (fun _ _ => rfl)) da_nil))) (de_tup (da_cons de_int (da_cons de_int da_nil))) rfl)))) da_nil)))))))
theorem h_is_path {M : Md} (T : Hs M) (h_is_from_to : Has M false 2 "is_from_to" ["thing", "least", "most"] m_is_from_to) (h_is_leg : Has M false 3 "is_leg" ["thing"] m_is_leg) (h_quarter : Has M false 1 "quarter" ["one", "other"] m_quarter) (F : TopFn M "is_path" s_is_path ["thing"]) : Has M false 4 "is_path" ["thing"] m_is_path := has_of F sc_is_path t_is_path rfl rfl (fun X c => b_is_path T h_is_from_to h_is_leg h_quarter c)
abbrev s_strips_or_none : Stmt := topS 54
def B_strips_or_none : Tb := ⟨["thing"], [0], [0], [0], ["is_path", "is_from_to", "MOST_WIDTH", "strips_by", "NoStrip"], [], true, false, none⟩
theorem sc_strips_or_none : FnScope B_strips_or_none.N ["thing"] (defScope s_strips_or_none) := ⟨rfl, rfl, rfl, by decide +kernel, rfl, by decide +kernel, by decide +kernel⟩
theorem t_strips_or_none : fnT B_strips_or_none (defScope s_strips_or_none) = true := by decide +kernel
noncomputable def d_strips_or_none : En → Sto → SR :=
    (sSeq (sIf (tOr2 (tNot1 (tTru (eCall m_is_path (aCons (eOp2 ixD (eVar 0) (eK (.int 0))) aNil)))) (tNot1 (tTru (eCall m_is_from_to (aCons (eOp2 ixD (eVar 0) (eK (.int 1))) (aCons (eK (.int 1)) (aCons (eK w_MOST_WIDTH) aNil))))))) (sRet (eK .none)) sNil)
    (sTryX "NoStrip" (sRet (eCall m_strips_by (aCons (eOp2 ixD (eVar 0) (eK (.int 0))) (aCons (eOp2 ixD (eVar 0) (eK (.int 1))) aNil))))))
noncomputable def m_strips_or_none : List Wv → Sto → Rs Wv := mkF 1 1 d_strips_or_none
theorem b_strips_or_none {M : Md} {X : Cx} (T : Hs M) (h_is_from_to : Has M false 2 "is_from_to" ["thing", "least", "most"] m_is_from_to) (h_is_path : Has M false 4 "is_path" ["thing"] m_is_path) (h_strips_by : Has M false 3 "strips_by" ["path", "width"] m_strips_by) (c : Cxt M X B_strips_or_none 4) : DB X (defBody s_strips_or_none) d_strips_or_none :=
    (db_cons (ds_if (DW.dt (dw_or (dt_not (dt_val (de_fn c (h_is_path.up (by decide)) 0 rfl (da_cons (de_ix c.roomH (de_var c 0 rfl (by decide)) de_int (fun _ _ => rfl)) da_nil)))) (dw_or1 (dt_not (dt_val (de_fn c (h_is_from_to.up (by decide)) 1 rfl (da_cons (de_ix c.roomH (de_var c 0 rfl (by decide)) de_int (fun _ _ => rfl)) (da_cons de_int (da_cons (q_MOST_WIDTH T c 2 rfl) da_nil))))))))) (db_one (ds_ret de_non)) db_nil)
    (db_one (Exists.elim T.o_NoStrip fun _ O => ds_tryX (j := 4) c rfl O (fun X c => (db_one (ds_ret (de_fn c (h_strips_by.up (by decide)) 3 rfl (da_cons (de_ix c.roomH (de_var c 0 rfl (by decide)) de_int (fun _ _ => rfl)) (da_cons (de_ix c.roomH (de_var c 0 rfl (by decide)) de_int (fun _ _ => rfl)) da_nil)))))))))
theorem h_strips_or_none {M : Md} (T : Hs M) (h_is_from_to : Has M false 2 "is_from_to" ["thing", "least", "most"] m_is_from_to) (h_is_path : Has M false 4 "is_path" ["thing"] m_is_path) (h_strips_by : Has M false 3 "strips_by" ["path", "width"] m_strips_by) (F : TopFn M "strips_or_none" s_strips_or_none ["thing"]) : Has M false 5 "strips_or_none" ["thing"] m_strips_or_none := has_of F sc_strips_or_none t_strips_or_none rfl rfl (fun X c => b_strips_or_none T h_is_from_to h_is_path h_strips_by c)
abbrev s_are_stones : Stmt := topS 55
def B_are_stones : Tb := ⟨["thing", "long", "end", "one"], [0, 1, 2, 3], [0, 1, 2, 3], [0, 1, 2, 3], ["isinstance", "tuple", "len", "MOST_STONES", "is_from_to", "MOST_STONE"], [], true, false, none⟩
theorem sc_are_stones : FnScope B_are_stones.N ["thing", "long"] (defScope s_are_stones) := ⟨rfl, rfl, rfl, by decide +kernel, rfl, by decide +kernel, by decide +kernel⟩
theorem t_are_stones : fnT B_are_stones (defScope s_are_stones) = true := by decide +kernel
noncomputable def d_are_stones_l1 : En → Sto → SR :=
    (sWp [3] (sSeq (sIf (tOr2 (tNot1 (tTru (eOp1 (isaD "tuple") (eVar 3)))) (tOr2 (tBl (eOp2 neD (eOpN lenF (aCons (eVar 3) aNil)) (eK (.int 2)))) (tNot1 (tTru (eCall m_is_from_to (aCons (eOp2 ixD (eVar 3) (eK (.int 1))) (aCons (eK (.int 1)) (aCons (eK w_MOST_STONE) aNil)))))))) (sRet (eK (.bool false))) sNil)
    (sSeq (sIf (tNot1 (tTru (eCall m_is_from_to (aCons (eOp2 ixD (eVar 3) (eK (.int 0))) (aCons (eVar 2) (aCons (eOp2 subD (eVar 1) (eOp2 ixD (eVar 3) (eK (.int 1)))) aNil)))))) (sRet (eK (.bool false))) sNil)
    (sSet 2 (eOp2 addD (eOp2 ixD (eVar 3) (eK (.int 0))) (eOp2 ixD (eVar 3) (eK (.int 1))))))))
noncomputable def d_are_stones : En → Sto → SR :=
    (sSeq (sIf (tOr2 (tNot1 (tTru (eOp1 (isaD "tuple") (eVar 0)))) (tNot1 (tBl (eChain leD leD (eK (.int 1)) (eOpN lenF (aCons (eVar 0) aNil)) (eK w_MOST_STONES))))) (sRet (eK (.bool false))) sNil)
    (sSeq (sSet 2 (eK (.int 0)))
    (sSeq (sFor (cSeq (eVar 0)) (gN 3) d_are_stones_l1)
    (sRet (eK (.bool true))))))
noncomputable def m_are_stones : List Wv → Sto → Rs Wv := mkF 2 4 d_are_stones
theorem b_are_stones {M : Md} {X : Cx} (T : Hs M) (h_is_from_to : Has M false 2 "is_from_to" ["thing", "least", "most"] m_is_from_to) (c : Cxt M X B_are_stones 2) : DB X (defBody s_are_stones) d_are_stones :=
    (db_cons (ds_if (DW.dt (dw_or (dt_not (dt_val (de_isa c 0 1 rfl T.z_isinstance rfl T.z_tuple (by decide +kernel) (de_var c 0 rfl (by decide))))) (dw_or1 (dt_not (dt_chain (o_le c.roomH) (o_le c.roomH) de_int (de_callB (id := "len") c c_len 2 rfl T.z_len (by decide +kernel) (da_cons (de_var c 0 rfl (by decide)) da_nil)) (q_MOST_STONES T c 3 rfl)))))) (db_one (ds_ret de_bl)) db_nil)
    (db_cons (ds_set c 2 rfl (by decide) de_int)
    (db_cons (ds_for c [3] (di_seq (de_var c 0 rfl (by decide))) (dg_name c [3] 3 rfl (by decide) (by decide))
    (db_wp [3] (db_cons (ds_if (DW.dt (dw_or (dt_not (dt_val (de_isa c 0 1 rfl T.z_isinstance rfl T.z_tuple (by decide +kernel) (de_var c 3 rfl (by decide))))) (dw_or (dt_cmp (o_ne c.roomH) (de_callB (id := "len") c c_len 2 rfl T.z_len (by decide +kernel) (da_cons (de_var c 3 rfl (by decide)) da_nil)) de_int (nomark _)) (dw_or1 (dt_not (dt_val (de_fn c (h_is_from_to.up (by decide)) 4 rfl (da_cons (de_ix c.roomH (de_var c 3 rfl (by decide)) de_int (fun _ _ => rfl)) (da_cons de_int (da_cons (q_MOST_STONE T c 5 rfl) da_nil)))))))))) (db_one (ds_ret de_bl)) db_nil)
    (db_cons (ds_if (dt_not (dt_val (de_fn c (h_is_from_to.up (by decide)) 4 rfl (da_cons (de_ix c.roomH (de_var c 3 rfl (by decide)) de_int (fun _ _ => rfl)) (da_cons (de_var c 2 rfl (by decide)) (da_cons (de_bin o_sub (de_var c 1 rfl (by decide)) (de_ix c.roomH (de_var c 3 rfl (by decide)) de_int (fun _ _ => rfl))) da_nil)))))) (db_one (ds_ret de_bl)) db_nil)
    (db_one (ds_set c 2 rfl (by decide) (de_bin o_add (de_ix c.roomH (de_var c 3 rfl (by decide)) de_int (fun _ _ => rfl)) (de_ix c.roomH (de_var c 3 rfl (by decide)) de_int (fun _ _ => rfl)))))))))
    (db_one (ds_ret de_bl)))))
theorem h_are_stones {M : Md} (T : Hs M) (h_is_from_to : Has M false 2 "is_from_to" ["thing", "least", "most"] m_is_from_to) (F : TopFn M "are_stones" s_are_stones ["thing", "long"]) : Has M false 3 "are_stones" ["thing", "long"] m_are_stones := has_of F sc_are_stones t_are_stones rfl rfl (fun X c => b_are_stones T h_is_from_to c)
abbrev s_is_row : Stmt := topS 56
def B_is_row : Tb := ⟨["thing", "some", ".0", "stones", "strip"], [0, 1], [0, 1], [0, 1], ["isinstance", "tuple", "len", "strips_or_none", "all", "zip"], [], true, false, none⟩
theorem sc_is_row : FnScope B_is_row.N ["thing"] (defScope s_is_row) := ⟨rfl, rfl, rfl, by decide +kernel, rfl, by decide +kernel, by decide +kernel⟩
theorem t_is_row : fnT B_is_row (defScope s_is_row) = true := by decide +kernel
noncomputable def d_is_row : En → Sto → SR :=
    (sSeq (sIf (tOr2 (tNot1 (tTru (eOp1 (isaD "tuple") (eVar 0)))) (tBl (eOp2 neD (eOpN lenF (aCons (eVar 0) aNil)) (eK (.int 3))))) (sRet (eK (.bool false))) sNil)
    (sSeq (sSet 1 (eCall m_strips_or_none (aCons (eVar 0) aNil)))
    (sSeq (sIf (tOr2 (tBl (eOp2 isND (eVar 1) (eK .none))) (tOr2 (tNot1 (tTru (eOp1 (isaD "tuple") (eOp2 ixD (eVar 0) (eK (.int 2)))))) (tBl (eOp2 neD (eOpN lenF (aCons (eOp2 ixD (eVar 0) (eK (.int 2))) aNil)) (eOpN lenF (aCons (eVar 1) aNil)))))) (sRet (eK (.bool false))) sNil)
    (sRet (eOpN allF (aCons (eLc (cZip2 (aCons (eOp2 ixD (eVar 0) (eK (.int 2))) (aCons (eVar 1) aNil))) (gTp (gCn (gN 3) (gCn (gN 4) gNl))) tYs (eCall m_are_stones (aCons (eVar 3) (aCons (eOp2 ixD (eVar 4) (eK (.int 3))) aNil))) [2, 3, 4]) aNil))))))
noncomputable def m_is_row : List Wv → Sto → Rs Wv := mkF 1 5 d_is_row
theorem b_is_row {M : Md} {X : Cx} (T : Hs M) (h_are_stones : Has M false 3 "are_stones" ["thing", "long"] m_are_stones) (h_strips_or_none : Has M false 5 "strips_or_none" ["thing"] m_strips_or_none) (c : Cxt M X B_is_row 5) : DB X (defBody s_is_row) d_is_row :=
    (db_cons (ds_if (DW.dt (dw_or (dt_not (dt_val (de_isa c 0 1 rfl T.z_isinstance rfl T.z_tuple (by decide +kernel) (de_var c 0 rfl (by decide))))) (dw_or1 (dt_cmp (o_ne c.roomH) (de_callB (id := "len") c c_len 2 rfl T.z_len (by decide +kernel) (da_cons (de_var c 0 rfl (by decide)) da_nil)) de_int (nomark _))))) (db_one (ds_ret de_bl)) db_nil)
    (db_cons (ds_set c 1 rfl (by decide) (de_fn c (h_strips_or_none.up (by decide)) 3 rfl (da_cons (de_var c 0 rfl (by decide)) da_nil)))
    (db_cons (ds_if (DW.dt (dw_or (dt_cmp o_isN (de_var c 1 rfl (by decide)) de_non (nomark _)) (dw_or (dt_not (dt_val (de_isa c 0 1 rfl T.z_isinstance rfl T.z_tuple (by decide +kernel) (de_ix c.roomH (de_var c 0 rfl (by decide)) de_int (fun _ _ => rfl))))) (dw_or1 (dt_cmp (o_ne c.roomH) (de_callB (id := "len") c c_len 2 rfl T.z_len (by decide +kernel) (da_cons (de_ix c.roomH (de_var c 0 rfl (by decide)) de_int (fun _ _ => rfl)) da_nil)) (de_callB (id := "len") c c_len 2 rfl T.z_len (by decide +kernel) (da_cons (de_var c 1 rfl (by decide)) da_nil)) (nomark _)))))) (db_one (ds_ret de_bl)) db_nil)
    (db_one (ds_ret (de_callB (id := "all") c (c_all c.calm) 4 rfl T.z_all (by decide +kernel) (da_cons (de_lc c (lc_ok c [(".0", 2), ("stones", 3), ("strip", 4)] [2, 3, 4] [2, 3, 4] ["are_stones"] [] (by decide +kernel) (di_zip2 c 5 rfl T.z_zip (da_cons (de_ix c.roomH (de_var c 0 rfl (by decide)) de_int (fun _ _ => rfl)) (da_cons (de_var c 1 rfl (by decide)) da_nil))) (by decide) (fun _ c8 => (dg_tup c8 (dgs_cons (dg_name c8 [2, 3, 4] 3 rfl (by decide) (by decide)) (dgs_cons (dg_name c8 [2, 3, 4] 4 rfl (by decide) (by decide)) (dgs_nil [2, 3, 4]))) (asks_cons (asks_cons asks_nil)))) (fun _ c8 => dts_nil) (fun _ c8 => (de_fn c8 (h_are_stones.up (by decide)) 0 rfl (da_cons (de_var c8 3 rfl (by decide)) (da_cons (de_ix c8.roomH (de_var c8 4 rfl (by decide)) de_int (fun _ _ => rfl)) da_nil)))))) da_nil)))))))
theorem h_is_row {M : Md} (T : Hs M) (h_are_stones : Has M false 3 "are_stones" ["thing", "long"] m_are_stones) (h_strips_or_none : Has M false 5 "strips_or_none" ["thing"] m_strips_or_none) (F : TopFn M "is_row" s_is_row ["thing"]) : Has M false 6 "is_row" ["thing"] m_is_row := has_of F sc_is_row t_is_row rfl rfl (fun X c => b_is_row T h_are_stones h_strips_or_none c)
abbrev s_need_rows : Stmt := topS 58
def B_need_rows : Tb := ⟨["rows", ".0", "row"], [0], [0], [0], ["isinstance", "tuple", "len", "MOST_ROWS", "all", "NoRow"], [], true, false, none⟩
theorem sc_need_rows : FnScope B_need_rows.N ["rows"] (defScope s_need_rows) := ⟨rfl, rfl, rfl, by decide +kernel, rfl, by decide +kernel, by decide +kernel⟩
theorem t_need_rows : fnT B_need_rows (defScope s_need_rows) = true := by decide +kernel
noncomputable def d_need_rows : En → Sto → SR :=
    (sIf (tOr2 (tNot1 (tTru (eOp1 (isaD "tuple") (eVar 0)))) (tOr2 (tBl (eOp2 gtD (eOpN lenF (aCons (eVar 0) aNil)) (eK w_MOST_ROWS))) (tNot1 (tTru (eOpN allF (aCons (eLc (cSeq (eVar 0)) (gN 2) tYs (eCall m_is_row (aCons (eVar 2) aNil)) [1, 2]) aNil)))))) (sRaise "NoRow") sNil)
noncomputable def m_need_rows : List Wv → Sto → Rs Wv := mkF 1 3 d_need_rows
theorem b_need_rows {M : Md} {X : Cx} (T : Hs M) (h_is_row : Has M false 6 "is_row" ["thing"] m_is_row) (c : Cxt M X B_need_rows 6) : DB X (defBody s_need_rows) d_need_rows :=
    (db_one (ds_if (DW.dt (dw_or (dt_not (dt_val (de_isa c 0 1 rfl T.z_isinstance rfl T.z_tuple (by decide +kernel) (de_var c 0 rfl (by decide))))) (dw_or (dt_cmp (o_gt c.roomH) (de_callB (id := "len") c c_len 2 rfl T.z_len (by decide +kernel) (da_cons (de_var c 0 rfl (by decide)) da_nil)) (q_MOST_ROWS T c 3 rfl) (nomark _)) (dw_or1 (dt_not (dt_val (de_callB (id := "all") c (c_all c.calm) 4 rfl T.z_all (by decide +kernel) (da_cons (de_lc c (lc_ok c [(".0", 1), ("row", 2)] [1, 2] [1, 2] ["is_row"] [] (by decide +kernel) (di_seq (de_var c 0 rfl (by decide))) (by decide) (fun _ c9 => (dg_name c9 [1, 2] 2 rfl (by decide) (by decide))) (fun _ c9 => dts_nil) (fun _ c9 => (de_fn c9 (h_is_row.up (by decide)) 0 rfl (da_cons (de_var c9 2 rfl (by decide)) da_nil))))) da_nil)))))))) (db_one (ds_raiseO c 5 rfl T.e_NoRow)) db_nil))
theorem h_need_rows {M : Md} (T : Hs M) (h_is_row : Has M false 6 "is_row" ["thing"] m_is_row) (F : TopFn M "need_rows" s_need_rows ["rows"]) : Has M false 7 "need_rows" ["rows"] m_need_rows := has_of F sc_need_rows t_need_rows rfl rfl (fun X c => b_need_rows T h_is_row c)
abbrev s_need_square : Stmt := topS 70
def B_need_square : Tb := ⟨["x", "y"], [0, 1], [0, 1], [0, 1], ["is_whole", "NoPlace"], [], true, false, none⟩
theorem sc_need_square : FnScope B_need_square.N ["x", "y"] (defScope s_need_square) := ⟨rfl, rfl, rfl, by decide +kernel, rfl, by decide +kernel, by decide +kernel⟩
theorem t_need_square : fnT B_need_square (defScope s_need_square) = true := by decide +kernel
noncomputable def d_need_square : En → Sto → SR :=
    (sIf (tOr2 (tNot1 (tTru (eCall m_is_whole (aCons (eVar 0) aNil)))) (tNot1 (tTru (eCall m_is_whole (aCons (eVar 1) aNil))))) (sRaise "NoPlace") sNil)
noncomputable def m_need_square : List Wv → Sto → Rs Wv := mkF 2 2 d_need_square
theorem b_need_square {M : Md} {X : Cx} (T : Hs M) (h_is_whole : Has M false 1 "is_whole" ["thing"] m_is_whole) (c : Cxt M X B_need_square 1) : DB X (defBody s_need_square) d_need_square :=
    (db_one (ds_if (DW.dt (dw_or (dt_not (dt_val (de_fn c (h_is_whole.up (by decide)) 0 rfl (da_cons (de_var c 0 rfl (by decide)) da_nil)))) (dw_or1 (dt_not (dt_val (de_fn c (h_is_whole.up (by decide)) 0 rfl (da_cons (de_var c 1 rfl (by decide)) da_nil))))))) (db_one (ds_raiseO c 1 rfl T.e_NoPlace)) db_nil))
theorem h_need_square {M : Md} (T : Hs M) (h_is_whole : Has M false 1 "is_whole" ["thing"] m_is_whole) (F : TopFn M "need_square" s_need_square ["x", "y"]) : Has M false 2 "need_square" ["x", "y"] m_need_square := has_of F sc_need_square t_need_square rfl rfl (fun X c => b_need_square T h_is_whole c)
abbrev s_at_square : Stmt := topS 71
def B_at_square : Tb := ⟨["rows", "x", "y"], [0, 1, 2], [0, 1, 2], [0, 1, 2], ["need_rows", "need_square", "at_by"], [], true, false, none⟩
theorem sc_at_square : FnScope B_at_square.N ["rows", "x", "y"] (defScope s_at_square) := ⟨rfl, rfl, rfl, by decide +kernel, rfl, by decide +kernel, by decide +kernel⟩
theorem t_at_square : fnT B_at_square (defScope s_at_square) = true := by decide +kernel
noncomputable def d_at_square : En → Sto → SR :=
    (sSeq (sExp (eCall m_need_rows (aCons (eVar 0) aNil)))
    (sSeq (sExp (eCall m_need_square (aCons (eVar 1) (aCons (eVar 2) aNil))))
    sNo))
noncomputable def m_at_square : List Wv → Sto → Rs Wv := mkF 3 3 d_at_square
theorem b_at_square {M : Md} {X : Cx} (T : Hs M) (h_need_rows : Has M false 7 "need_rows" ["rows"] m_need_rows) (h_need_square : Has M false 2 "need_square" ["x", "y"] m_need_square) (c : Cxt M X B_at_square 7) : DB X (defBody s_at_square) d_at_square :=
    (db_cons (ds_exp (de_fn c (h_need_rows.up (by decide)) 0 rfl (da_cons (de_var c 0 rfl (by decide)) da_nil)))
    (db_cons (ds_exp (de_fn c (h_need_square.up (by decide)) 1 rfl (da_cons (de_var c 1 rfl (by decide)) (da_cons (de_var c 2 rfl (by decide)) da_nil))))
    (db_one ds_no)))
theorem h_at_square {M : Md} (T : Hs M) (h_need_rows : Has M false 7 "need_rows" ["rows"] m_need_rows) (h_need_square : Has M false 2 "need_square" ["x", "y"] m_need_square) (F : TopFn M "at_square" s_at_square ["rows", "x", "y"]) : Has M false 8 "at_square" ["rows", "x", "y"] m_at_square := has_of F sc_at_square t_at_square rfl rfl (fun X c => b_at_square T h_need_rows h_need_square c)
abbrev s_need_row : Stmt := topS 57
def B_need_row : Tb := ⟨["row"], [0], [0], [0], ["is_row", "NoRow"], [], true, false, none⟩
theorem sc_need_row : FnScope B_need_row.N ["row"] (defScope s_need_row) := ⟨rfl, rfl, rfl, by decide +kernel, rfl, by decide +kernel, by decide +kernel⟩
theorem t_need_row : fnT B_need_row (defScope s_need_row) = true := by decide +kernel
noncomputable def d_need_row : En → Sto → SR :=
    (sIf (tNot1 (tTru (eCall m_is_row (aCons (eVar 0) aNil)))) (sRaise "NoRow") sNil)
noncomputable def m_need_row : List Wv → Sto → Rs Wv := mkF 1 1 d_need_row
theorem b_need_row {M : Md} {X : Cx} (T : Hs M) (h_is_row : Has M false 6 "is_row" ["thing"] m_is_row) (c : Cxt M X B_need_row 6) : DB X (defBody s_need_row) d_need_row :=
    (db_one (ds_if (dt_not (dt_val (de_fn c (h_is_row.up (by decide)) 0 rfl (da_cons (de_var c 0 rfl (by decide)) da_nil)))) (db_one (ds_raiseO c 1 rfl T.e_NoRow)) db_nil))
theorem h_need_row {M : Md} (T : Hs M) (h_is_row : Has M false 6 "is_row" ["thing"] m_is_row) (F : TopFn M "need_row" s_need_row ["row"]) : Has M false 7 "need_row" ["row"] m_need_row := has_of F sc_need_row t_need_row rfl rfl (fun X c => b_need_row T h_is_row c)
abbrev s_are_joints : Stmt := topS 50
def B_are_joints : Tb := ⟨["thing"], [0], [0], [0], ["isinstance", "tuple", "len", "is_from_to", "MOST_JOINT"], [], true, false, none⟩
theorem sc_are_joints : FnScope B_are_joints.N ["thing"] (defScope s_are_joints) := ⟨rfl, rfl, rfl, by decide +kernel, rfl, by decide +kernel, by decide +kernel⟩
theorem t_are_joints : fnT B_are_joints (defScope s_are_joints) = true := by decide +kernel
noncomputable def d_are_joints : En → Sto → SR :=
    (sSeq (sIf (tOr2 (tNot1 (tTru (eOp1 (isaD "tuple") (eVar 0)))) (tBl (eOp2 neD (eOpN lenF (aCons (eVar 0) aNil)) (eK (.int 2))))) (sRet (eK (.bool false))) sNil)
    (sRet (eAnd2 (eCall m_is_from_to (aCons (eOp2 ixD (eVar 0) (eK (.int 0))) (aCons (eK (.int 0)) (aCons (eK w_MOST_JOINT) aNil)))) (eCall m_is_from_to (aCons (eOp2 ixD (eVar 0) (eK (.int 1))) (aCons (eOp2 ixD (eVar 0) (eK (.int 0))) (aCons (eK w_MOST_JOINT) aNil)))))))
noncomputable def m_are_joints : List Wv → Sto → Rs Wv := mkF 1 1 d_are_joints
theorem b_are_joints {M : Md} {X : Cx} (T : Hs M) (h_is_from_to : Has M false 2 "is_from_to" ["thing", "least", "most"] m_is_from_to) (c : Cxt M X B_are_joints 2) : DB X (defBody s_are_joints) d_are_joints :=
    (db_cons (ds_if (DW.dt (dw_or (dt_not (dt_val (de_isa c 0 1 rfl T.z_isinstance rfl T.z_tuple (by decide +kernel) (de_var c 0 rfl (by decide))))) (dw_or1 (dt_cmp (o_ne c.roomH) (de_callB (id := "len") c c_len 2 rfl T.z_len (by decide +kernel) (da_cons (de_var c 0 rfl (by decide)) da_nil)) de_int (nomark _))))) (db_one (ds_ret de_bl)) db_nil)
    (db_one (ds_ret (de_and (de_fn c (h_is_from_to.up (by decide)) 3 rfl (da_cons (de_ix c.roomH (de_var c 0 rfl (by decide)) de_int (fun _ _ => rfl)) (da_cons de_int (da_cons (q_MOST_JOINT T c 4 rfl) da_nil)))) (de_one (de_fn c (h_is_from_to.up (by decide)) 3 rfl (da_cons (de_ix c.roomH (de_var c 0 rfl (by decide)) de_int (fun _ _ => rfl)) (da_cons (de_ix c.roomH (de_var c 0 rfl (by decide)) de_int (fun _ _ => rfl)) (da_cons (q_MOST_JOINT T c 4 rfl) da_nil)))))))))
theorem h_are_joints {M : Md} (T : Hs M) (h_is_from_to : Has M false 2 "is_from_to" ["thing", "least", "most"] m_is_from_to) (F : TopFn M "are_joints" s_are_joints ["thing"]) : Has M false 3 "are_joints" ["thing"] m_are_joints := has_of F sc_are_joints t_are_joints rfl rfl (fun X c => b_are_joints T h_is_from_to c)
abbrev s_need_joints : Stmt := topS 51
def B_need_joints : Tb := ⟨["joints"], [0], [0], [0], ["are_joints", "NoJoints"], [], true, false, none⟩
theorem sc_need_joints : FnScope B_need_joints.N ["joints"] (defScope s_need_joints) := ⟨rfl, rfl, rfl, by decide +kernel, rfl, by decide +kernel, by decide +kernel⟩
theorem t_need_joints : fnT B_need_joints (defScope s_need_joints) = true := by decide +kernel
noncomputable def d_need_joints : En → Sto → SR :=
    (sIf (tNot1 (tTru (eCall m_are_joints (aCons (eVar 0) aNil)))) (sRaise "NoJoints") sNil)
noncomputable def m_need_joints : List Wv → Sto → Rs Wv := mkF 1 1 d_need_joints
theorem b_need_joints {M : Md} {X : Cx} (T : Hs M) (h_are_joints : Has M false 3 "are_joints" ["thing"] m_are_joints) (c : Cxt M X B_need_joints 3) : DB X (defBody s_need_joints) d_need_joints :=
    (db_one (ds_if (dt_not (dt_val (de_fn c (h_are_joints.up (by decide)) 0 rfl (da_cons (de_var c 0 rfl (by decide)) da_nil)))) (db_one (ds_raiseO c 1 rfl T.e_NoJoints)) db_nil))
theorem h_need_joints {M : Md} (T : Hs M) (h_are_joints : Has M false 3 "are_joints" ["thing"] m_are_joints) (F : TopFn M "need_joints" s_need_joints ["joints"]) : Has M false 4 "need_joints" ["joints"] m_need_joints := has_of F sc_need_joints t_need_joints rfl rfl (fun X c => b_need_joints T h_are_joints c)
abbrev s_in_joints : Stmt := topS 60
def B_in_joints : Tb := ⟨["row", "joints", "strip", "stones", "here", "found"], [0, 1, 2, 3, 4, 5], [0, 1, 2, 3, 4, 5], [0, 1, 2, 3, 4, 5], ["need_row", "need_joints", "enumerate", "zip", "strips_by", "amiss"], [], true, false, none⟩
theorem sc_in_joints : FnScope B_in_joints.N ["row", "joints"] (defScope s_in_joints) := ⟨rfl, rfl, rfl, by decide +kernel, rfl, by decide +kernel, by decide +kernel⟩
theorem t_in_joints : fnT B_in_joints (defScope s_in_joints) = true := by decide +kernel
noncomputable def d_in_joints : En → Sto → SR :=
    (sSeq (sExp (eCall m_need_row (aCons (eVar 0) aNil)))
    (sSeq (sExp (eCall m_need_joints (aCons (eVar 1) aNil)))
    (sSeq sNo
    sNo)))
noncomputable def m_in_joints : List Wv → Sto → Rs Wv := mkF 2 6 d_in_joints
theorem b_in_joints {M : Md} {X : Cx} (T : Hs M) (h_need_joints : Has M false 4 "need_joints" ["joints"] m_need_joints) (h_need_row : Has M false 7 "need_row" ["row"] m_need_row) (c : Cxt M X B_in_joints 7) : DB X (defBody s_in_joints) d_in_joints :=
    (db_cons (ds_exp (de_fn c (h_need_row.up (by decide)) 0 rfl (da_cons (de_var c 0 rfl (by decide)) da_nil)))
    (db_cons (ds_exp (de_fn c (h_need_joints.up (by decide)) 1 rfl (da_cons (de_var c 1 rfl (by decide)) da_nil)))
    (db_cons ds_no
    (db_one ds_no))))
theorem h_in_joints {M : Md} (T : Hs M) (h_need_joints : Has M false 4 "need_joints" ["joints"] m_need_joints) (h_need_row : Has M false 7 "need_row" ["row"] m_need_row) (F : TopFn M "in_joints" s_in_joints ["row", "joints"]) : Has M false 8 "in_joints" ["row", "joints"] m_in_joints := has_of F sc_in_joints t_in_joints rfl rfl (fun X c => b_in_joints T h_need_joints h_need_row c)
abbrev s_rectangle : Stmt := topS 44
def B_rectangle : Tb := ⟨["strip", "width", "start", "end", "x", "y", "way", "long"], [0, 1, 2, 3, 4, 5, 6, 7], [0, 1, 2, 3, 4, 5, 6, 7], [0, 1, 2, 3, 4, 5, 6, 7], [], [], true, false, none⟩
theorem sc_rectangle : FnScope B_rectangle.N ["strip", "width", "start", "end"] (defScope s_rectangle) := ⟨rfl, rfl, rfl, by decide +kernel, rfl, by decide +kernel, by decide +kernel⟩
theorem t_rectangle : fnT B_rectangle (defScope s_rectangle) = true := by decide +kernel
noncomputable def d_rectangle : En → Sto → SR :=
    (sSeq (sAsg (gTp (gCn (gN 4) (gCn (gN 5) (gCn (gN 6) (gCn (gN 7) gNl))))) (eVar 0))
    (sSeq (sIf (tBl (eOp2 eqD (eVar 6) (eK (.str "east")))) (sRet (eTup (aCons (eOp2 addD (eVar 4) (eVar 2)) (aCons (eVar 5) (aCons (eOp2 addD (eVar 4) (eVar 3)) (aCons (eOp2 addD (eVar 5) (eVar 1)) aNil)))))) sNil)
    (sSeq (sIf (tBl (eOp2 eqD (eVar 6) (eK (.str "north")))) (sRet (eTup (aCons (eOp2 subD (eVar 4) (eVar 1)) (aCons (eOp2 addD (eVar 5) (eVar 2)) (aCons (eVar 4) (aCons (eOp2 addD (eVar 5) (eVar 3)) aNil)))))) sNil)
    (sSeq (sIf (tBl (eOp2 eqD (eVar 6) (eK (.str "west")))) (sRet (eTup (aCons (eOp2 subD (eVar 4) (eVar 3)) (aCons (eOp2 subD (eVar 5) (eVar 1)) (aCons (eOp2 subD (eVar 4) (eVar 2)) (aCons (eVar 5) aNil)))))) sNil)
    (sRet (eTup (aCons (eVar 4) (aCons (eOp2 subD (eVar 5) (eVar 3)) (aCons (eOp2 addD (eVar 4) (eVar 1)) (aCons (eOp2 subD (eVar 5) (eVar 2)) aNil))))))))))
noncomputable def m_rectangle : List Wv → Sto → Rs Wv := mkF 4 8 d_rectangle
theorem b_rectangle {M : Md} {X : Cx} (T : Hs M)  (c : Cxt M X B_rectangle 0) : DB X (defBody s_rectangle) d_rectangle :=
    (db_cons (ds_asg (de_var c 0 rfl (by decide)) (dg_tup c (dgs_cons (dg_name c [4, 5, 6, 7] 4 rfl (by decide) (by decide)) (dgs_cons (dg_name c [4, 5, 6, 7] 5 rfl (by decide) (by decide)) (dgs_cons (dg_name c [4, 5, 6, 7] 6 rfl (by decide) (by decide)) (dgs_cons (dg_name c [4, 5, 6, 7] 7 rfl (by decide) (by decide)) (dgs_nil [4, 5, 6, 7]))))) (asks_cons (asks_cons (asks_cons (asks_cons asks_nil))))))
    (db_cons (ds_if (dt_cmp (o_eq c.roomH) (de_var c 6 rfl (by decide)) de_str (nomark _)) (db_one (ds_ret (de_tup (da_cons (de_bin o_add (de_var c 4 rfl (by decide)) (de_var c 2 rfl (by decide))) (da_cons (de_var c 5 rfl (by decide)) (da_cons (de_bin o_add (de_var c 4 rfl (by decide)) (de_var c 3 rfl (by decide))) (da_cons (de_bin o_add (de_var c 5 rfl (by decide)) (de_var c 1 rfl (by decide))) da_nil))))))) db_nil)
    (db_cons (ds_if (dt_cmp (o_eq c.roomH) (de_var c 6 rfl (by decide)) de_str (nomark _)) (db_one (ds_ret (de_tup (da_cons (de_bin o_sub (de_var c 4 rfl (by decide)) (de_var c 1 rfl (by decide))) (da_cons (de_bin o_add (de_var c 5 rfl (by decide)) (de_var c 2 rfl (by decide))) (da_cons (de_var c 4 rfl (by decide)) (da_cons (de_bin o_add (de_var c 5 rfl (by decide)) (de_var c 3 rfl (by decide))) da_nil))))))) db_nil)
    (db_cons (ds_if (dt_cmp (o_eq c.roomH) (de_var c 6 rfl (by decide)) de_str (nomark _)) (db_one (ds_ret (de_tup (da_cons (de_bin o_sub (de_var c 4 rfl (by decide)) (de_var c 3 rfl (by decide))) (da_cons (de_bin o_sub (de_var c 5 rfl (by decide)) (de_var c 1 rfl (by decide))) (da_cons (de_bin o_sub (de_var c 4 rfl (by decide)) (de_var c 2 rfl (by decide))) (da_cons (de_var c 5 rfl (by decide)) da_nil))))))) db_nil)
    (db_one (ds_ret (de_tup (da_cons (de_var c 4 rfl (by decide)) (da_cons (de_bin o_sub (de_var c 5 rfl (by decide)) (de_var c 3 rfl (by decide))) (da_cons (de_bin o_add (de_var c 4 rfl (by decide)) (de_var c 1 rfl (by decide))) (da_cons (de_bin o_sub (de_var c 5 rfl (by decide)) (de_var c 2 rfl (by decide))) da_nil)))))))))))
theorem h_rectangle {M : Md} (T : Hs M)  (F : TopFn M "rectangle" s_rectangle ["strip", "width", "start", "end"]) : Has M false 1 "rectangle" ["strip", "width", "start", "end"] m_rectangle := has_of F sc_rectangle t_rectangle rfl rfl (fun X c => b_rectangle T  c)
abbrev s_rectangles : Stmt := topS 61
def B_rectangles : Tb := ⟨["row", "found", "stones", "strip", ".0", "start", "long"], [0, 1, 2, 3], [0, 1, 2, 3], [1, 2], ["zip", "strips_by"], ["row", "strip"], true, false, none⟩
theorem sc_rectangles : FnScope B_rectangles.N ["row"] (defScope s_rectangles) := ⟨rfl, rfl, rfl, by decide +kernel, rfl, by decide +kernel, by decide +kernel⟩
theorem t_rectangles : fnT B_rectangles (defScope s_rectangles) = true := by decide +kernel
noncomputable def d_rectangles_l1 : En → Sto → SR :=
    (sWp [2, 3] (sExp (eM extW (eVar 1) (aCons (eLc (cSeq (eVar 2)) (gTp (gCn (gN 5) (gCn (gN 6) gNl))) tYs (eCall m_rectangle (aCons (eVar 3) (aCons (eOp2 ixD (eVar 0) (eK (.int 1))) (aCons (eVar 5) (aCons (eOp2 addD (eVar 5) (eVar 6)) aNil))))) [4, 5, 6]) aNil))))
noncomputable def d_rectangles : En → Sto → SR :=
    (sSeq (sSet 1 (eNewL aNil))
    (sSeq (sFor (cZip2 (aCons (eOp2 ixD (eVar 0) (eK (.int 2))) (aCons (eCall m_strips_by (aCons (eOp2 ixD (eVar 0) (eK (.int 0))) (aCons (eOp2 ixD (eVar 0) (eK (.int 1))) aNil))) aNil))) (gTp (gCn (gN 2) (gCn (gN 3) gNl))) d_rectangles_l1)
    (sRetF (eVar 1))))
noncomputable def m_rectangles : List Wv → Sto → Rs Wv := mkF 1 7 d_rectangles
theorem b_rectangles {M : Md} {X : Cx} (T : Hs M) (h_rectangle : Has M false 1 "rectangle" ["strip", "width", "start", "end"] m_rectangle) (h_strips_by : Has M false 3 "strips_by" ["path", "width"] m_strips_by) (c : Cxt M X B_rectangles 3) : DB X (defBody s_rectangles) d_rectangles :=
    (db_cons (ds_set c 1 rfl (by decide) (de_newl da_nil))
    (db_cons (ds_for c [2, 3] (di_zip2 c 0 rfl T.z_zip (da_cons (de_ix c.roomH (de_var c 0 rfl (by decide)) de_int (fun _ _ => rfl)) (da_cons (de_fn c (h_strips_by.up (by decide)) 1 rfl (da_cons (de_ix c.roomH (de_var c 0 rfl (by decide)) de_int (fun _ _ => rfl)) (da_cons (de_ix c.roomH (de_var c 0 rfl (by decide)) de_int (fun _ _ => rfl)) da_nil))) da_nil))) (dg_tup c (dgs_cons (dg_name c [2, 3] 2 rfl (by decide) (by decide)) (dgs_cons (dg_name c [2, 3] 3 rfl (by decide) (by decide)) (dgs_nil [2, 3]))) (asks_cons (asks_cons asks_nil)))
    (db_wp [2, 3] (db_one (ds_exp (de_extend (de_var c 1 rfl (by decide)) (da_cons (de_lc c (lc_ok c [(".0", 4), ("start", 5), ("long", 6)] [4, 5, 6, 0, 3] [4, 5, 6] ["rectangle"] ["row", "strip"] (by decide +kernel) (di_seq (de_var c 2 rfl (by decide))) (by decide) (fun _ c10 => (dg_tup c10 (dgs_cons (dg_name c10 [4, 5, 6] 5 rfl (by decide) (by decide)) (dgs_cons (dg_name c10 [4, 5, 6] 6 rfl (by decide) (by decide)) (dgs_nil [4, 5, 6]))) (asks_cons (asks_cons asks_nil)))) (fun _ c10 => dts_nil) (fun _ c10 => (de_fn c10 (h_rectangle.up (by decide)) 0 rfl (da_cons (de_var c10 3 rfl (by decide)) (da_cons (de_ix c10.roomH (de_var c10 0 rfl (by decide)) de_int (fun _ _ => rfl)) (da_cons (de_var c10 5 rfl (by decide)) (da_cons (de_bin o_add (de_var c10 5 rfl (by decide)) (de_var c10 6 rfl (by decide))) da_nil)))))))) da_nil))))))
    (db_one (ds_retf (de_var c 1 rfl (by decide))))))
theorem h_rectangles {M : Md} (T : Hs M) (h_rectangle : Has M false 1 "rectangle" ["strip", "width", "start", "end"] m_rectangle) (h_strips_by : Has M false 3 "strips_by" ["path", "width"] m_strips_by) (F : TopFn M "rectangles" s_rectangles ["row"]) : Has M false 4 "rectangles" ["row"] m_rectangles := has_of F sc_rectangles t_rectangles rfl rfl (fun X c => b_rectangles T h_rectangle h_strips_by c)
abbrev s_all_stones : Stmt := topS 63
def B_all_stones : Tb := ⟨["rows", "found", "number", "row", ".0", "stone", "here"], [0, 1, 2, 3], [0, 1, 2, 3], [0, 1, 3], ["enumerate", "rectangles"], ["number"], true, false, none⟩
theorem sc_all_stones : FnScope B_all_stones.N ["rows"] (defScope s_all_stones) := ⟨rfl, rfl, rfl, by decide +kernel, rfl, by decide +kernel, by decide +kernel⟩
theorem t_all_stones : fnT B_all_stones (defScope s_all_stones) = true := by decide +kernel
noncomputable def d_all_stones_l1 : En → Sto → SR :=
    (sWp [2, 3] (sExp (eM extW (eVar 1) (aCons (eLc (cEnum (aCons (eCall m_rectangles (aCons (eVar 3) aNil)) aNil)) (gTp (gCn (gN 5) (gCn (gN 6) gNl))) tYs (eTup (aCons (eVar 2) (aCons (eVar 5) (aCons (eVar 6) aNil)))) [4, 5, 6]) aNil))))
noncomputable def d_all_stones : En → Sto → SR :=
    (sSeq (sSet 1 (eNewL aNil))
    (sSeq (sFor (cEnum (aCons (eVar 0) aNil)) (gTp (gCn (gN 2) (gCn (gN 3) gNl))) d_all_stones_l1)
    (sRetF (eVar 1))))
noncomputable def m_all_stones : List Wv → Sto → Rs Wv := mkF 1 7 d_all_stones
theorem b_all_stones {M : Md} {X : Cx} (T : Hs M) (h_rectangles : Has M false 4 "rectangles" ["row"] m_rectangles) (c : Cxt M X B_all_stones 4) : DB X (defBody s_all_stones) d_all_stones :=
    (db_cons (ds_set c 1 rfl (by decide) (de_newl da_nil))
    (db_cons (ds_for c [2, 3] (di_enum c 0 rfl T.z_enumerate (da_cons (de_var c 0 rfl (by decide)) da_nil)) (dg_tup c (dgs_cons (dg_name c [2, 3] 2 rfl (by decide) (by decide)) (dgs_cons (dg_name c [2, 3] 3 rfl (by decide) (by decide)) (dgs_nil [2, 3]))) (asks_cons (asks_cons asks_nil)))
    (db_wp [2, 3] (db_one (ds_exp (de_extend (de_var c 1 rfl (by decide)) (da_cons (de_lc c (lc_ok c [(".0", 4), ("stone", 5), ("here", 6)] [4, 5, 6, 2] [4, 5, 6] [] ["number"] (by decide +kernel) (di_enum c 0 rfl T.z_enumerate (da_cons (de_fn c (h_rectangles.up (by decide)) 1 rfl (da_cons (de_var c 3 rfl (by decide)) da_nil)) da_nil)) (by decide) (fun _ c11 => (dg_tup c11 (dgs_cons (dg_name c11 [4, 5, 6] 5 rfl (by decide) (by decide)) (dgs_cons (dg_name c11 [4, 5, 6] 6 rfl (by decide) (by decide)) (dgs_nil [4, 5, 6]))) (asks_cons (asks_cons asks_nil)))) (fun _ c11 => dts_nil) (fun _ c11 => (de_tup (da_cons (de_var c11 2 rfl (by decide)) (da_cons (de_var c11 5 rfl (by decide)) (da_cons (de_var c11 6 rfl (by decide)) da_nil))))))) da_nil))))))
    (db_one (ds_retf (de_var c 1 rfl (by decide))))))
theorem h_all_stones {M : Md} (T : Hs M) (h_rectangles : Has M false 4 "rectangles" ["row"] m_rectangles) (F : TopFn M "all_stones" s_all_stones ["rows"]) : Has M false 5 "all_stones" ["rows"] m_all_stones := has_of F sc_all_stones t_all_stones rfl rfl (fun X c => b_all_stones T h_rectangles c)
abbrev s_cover : Stmt := topS 45
def B_cover : Tb := ⟨["one", "other"], [0, 1], [0, 1], [0, 1], [], [], true, false, none⟩
theorem sc_cover : FnScope B_cover.N ["one", "other"] (defScope s_cover) := ⟨rfl, rfl, rfl, by decide +kernel, rfl, by decide +kernel, by decide +kernel⟩
theorem t_cover : fnT B_cover (defScope s_cover) = true := by decide +kernel
noncomputable def d_cover : En → Sto → SR :=
    (sSeq (sIf (tOr2 (tBl (eOp2 geD (eOp2 ixD (eVar 0) (eK (.int 0))) (eOp2 ixD (eVar 1) (eK (.int 2))))) (tBl (eOp2 geD (eOp2 ixD (eVar 1) (eK (.int 0))) (eOp2 ixD (eVar 0) (eK (.int 2)))))) (sRet (eK (.bool false))) sNil)
    (sRet (eAnd2 (eOp2 ltD (eOp2 ixD (eVar 0) (eK (.int 1))) (eOp2 ixD (eVar 1) (eK (.int 3)))) (eOp2 ltD (eOp2 ixD (eVar 1) (eK (.int 1))) (eOp2 ixD (eVar 0) (eK (.int 3)))))))
noncomputable def m_cover : List Wv → Sto → Rs Wv := mkF 2 2 d_cover
theorem b_cover {M : Md} {X : Cx} (T : Hs M)  (c : Cxt M X B_cover 0) : DB X (defBody s_cover) d_cover :=
    (db_cons (ds_if (DW.dt (dw_or (dt_cmp (o_ge c.roomH) (de_ix c.roomH (de_var c 0 rfl (by decide)) de_int (fun _ _ => rfl)) (de_ix c.roomH (de_var c 1 rfl (by decide)) de_int (fun _ _ => rfl)) (nomark _)) (dw_or1 (dt_cmp (o_ge c.roomH) (de_ix c.roomH (de_var c 1 rfl (by decide)) de_int (fun _ _ => rfl)) (de_ix c.roomH (de_var c 0 rfl (by decide)) de_int (fun _ _ => rfl)) (nomark _))))) (db_one (ds_ret de_bl)) db_nil)
    (db_one (ds_ret (de_and (de_cmp (o_lt c.roomH) (de_ix c.roomH (de_var c 0 rfl (by decide)) de_int (fun _ _ => rfl)) (de_ix c.roomH (de_var c 1 rfl (by decide)) de_int (fun _ _ => rfl)) (nomark _)) (de_one (de_cmp (o_lt c.roomH) (de_ix c.roomH (de_var c 1 rfl (by decide)) de_int (fun _ _ => rfl)) (de_ix c.roomH (de_var c 0 rfl (by decide)) de_int (fun _ _ => rfl)) (nomark _)))))))
theorem h_cover {M : Md} (T : Hs M)  (F : TopFn M "cover" s_cover ["one", "other"]) : Has M false 1 "cover" ["one", "other"] m_cover := has_of F sc_cover t_cover rfl rfl (fun X c => b_cover T  c)
abbrev s_over_by : Stmt := topS 64
def B_over_by : Tb := ⟨["rows", "some", "at", "row", "stone", "here", "other", "second", "there"], [0, 1, 2, 3, 4, 5, 6, 7, 8], [0, 1, 2, 3, 4, 5, 6, 7, 8], [0, 1, 2, 3, 4, 5, 6, 7, 8], ["all_stones", "enumerate", "cover"], [], true, false, none⟩
theorem sc_over_by : FnScope B_over_by.N ["rows"] (defScope s_over_by) := ⟨rfl, rfl, rfl, by decide +kernel, rfl, by decide +kernel, by decide +kernel⟩
theorem t_over_by : fnT B_over_by (defScope s_over_by) = true := by decide +kernel
noncomputable def d_over_by_l1 : En → Sto → SR :=
    (sWp [6, 7, 8] (sIf (tTru (eCall m_cover (aCons (eVar 5) (aCons (eVar 8) aNil)))) (sRet (eTup (aCons (eVar 3) (aCons (eVar 4) (aCons (eVar 6) (aCons (eVar 7) aNil)))))) sNil))
noncomputable def d_over_by_l2 : En → Sto → SR :=
    (sWp [2, 3, 4, 5, 6, 7, 8] (sFor (cSeq (eSlice (eVar 1) (pSome (eOp2 addD (eVar 2) (eK (.int 1)))) pNo)) (gTp (gCn (gN 6) (gCn (gN 7) (gCn (gN 8) gNl)))) d_over_by_l1))
noncomputable def d_over_by : En → Sto → SR :=
    (sSeq (sSet 1 (eCall m_all_stones (aCons (eVar 0) aNil)))
    (sSeq (sFor (cEnum (aCons (eVar 1) aNil)) (gTp (gCn (gN 2) (gCn (gTp (gCn (gN 3) (gCn (gN 4) (gCn (gN 5) gNl)))) gNl))) d_over_by_l2)
    (sRet (eK .none))))
noncomputable def m_over_by : List Wv → Sto → Rs Wv := mkF 1 9 d_over_by
theorem b_over_by {M : Md} {X : Cx} (T : Hs M) (h_all_stones : Has M false 5 "all_stones" ["rows"] m_all_stones) (h_cover : Has M false 1 "cover" ["one", "other"] m_cover) (c : Cxt M X B_over_by 5) : DB X (defBody s_over_by) d_over_by :=
    (db_cons (ds_set c 1 rfl (by decide) (de_fn c (h_all_stones.up (by decide)) 0 rfl (da_cons (de_var c 0 rfl (by decide)) da_nil)))
    (db_cons (ds_for c [2, 3, 4, 5] (di_enum c 1 rfl T.z_enumerate (da_cons (de_var c 1 rfl (by decide)) da_nil)) (dg_tup c (dgs_cons (dg_name c [2, 3, 4, 5] 2 rfl (by decide) (by decide)) (dgs_cons (dg_tup c (dgs_cons (dg_name c [2, 3, 4, 5] 3 rfl (by decide) (by decide)) (dgs_cons (dg_name c [2, 3, 4, 5] 4 rfl (by decide) (by decide)) (dgs_cons (dg_name c [2, 3, 4, 5] 5 rfl (by decide) (by decide)) (dgs_nil [2, 3, 4, 5])))) (asks_cons (asks_cons (asks_cons asks_nil)))) (dgs_nil [2, 3, 4, 5]))) (asks_cons (asks_cons asks_nil)))
    (db_wp [2, 3, 4, 5, 6, 7, 8] (db_one (ds_for c [6, 7, 8] (di_seq (de_slice (de_var c 1 rfl (by decide)) (do_some (de_bin o_add (de_var c 2 rfl (by decide)) de_int)) do_no)) (dg_tup c (dgs_cons (dg_name c [6, 7, 8] 6 rfl (by decide) (by decide)) (dgs_cons (dg_name c [6, 7, 8] 7 rfl (by decide) (by decide)) (dgs_cons (dg_name c [6, 7, 8] 8 rfl (by decide) (by decide)) (dgs_nil [6, 7, 8])))) (asks_cons (asks_cons (asks_cons asks_nil))))
    (db_wp [6, 7, 8] (db_one (ds_if (dt_val (de_fn c (h_cover.up (by decide)) 2 rfl (da_cons (de_var c 5 rfl (by decide)) (da_cons (de_var c 8 rfl (by decide)) da_nil)))) (db_one (ds_ret (de_tup (da_cons (de_var c 3 rfl (by decide)) (da_cons (de_var c 4 rfl (by decide)) (da_cons (de_var c 6 rfl (by decide)) (da_cons (de_var c 7 rfl (by decide)) da_nil))))))) db_nil)))))))
    (db_one (ds_ret de_non))))
theorem h_over_by {M : Md} (T : Hs M) (h_all_stones : Has M false 5 "all_stones" ["rows"] m_all_stones) (h_cover : Has M false 1 "cover" ["one", "other"] m_cover) (F : TopFn M "over_by" s_over_by ["rows"]) : Has M false 6 "over_by" ["rows"] m_over_by := has_of F sc_over_by t_over_by rfl rfl (fun X c => b_over_by T h_all_stones h_cover c)
abbrev s_first_over : Stmt := topS 65
def B_first_over : Tb := ⟨["rows"], [0], [0], [0], ["need_rows", "over_by"], [], true, false, none⟩
theorem sc_first_over : FnScope B_first_over.N ["rows"] (defScope s_first_over) := ⟨rfl, rfl, rfl, by decide +kernel, rfl, by decide +kernel, by decide +kernel⟩
theorem t_first_over : fnT B_first_over (defScope s_first_over) = true := by decide +kernel
noncomputable def d_first_over : En → Sto → SR :=
    (sSeq (sExp (eCall m_need_rows (aCons (eVar 0) aNil)))
    (sRet (eCall m_over_by (aCons (eVar 0) aNil))))
noncomputable def m_first_over : List Wv → Sto → Rs Wv := mkF 1 1 d_first_over
theorem b_first_over {M : Md} {X : Cx} (T : Hs M) (h_need_rows : Has M false 7 "need_rows" ["rows"] m_need_rows) (h_over_by : Has M false 6 "over_by" ["rows"] m_over_by) (c : Cxt M X B_first_over 7) : DB X (defBody s_first_over) d_first_over :=
    (db_cons (ds_exp (de_fn c (h_need_rows.up (by decide)) 0 rfl (da_cons (de_var c 0 rfl (by decide)) da_nil)))
    (db_one (ds_ret (de_fn c (h_over_by.up (by decide)) 1 rfl (da_cons (de_var c 0 rfl (by decide)) da_nil)))))
theorem h_first_over {M : Md} (T : Hs M) (h_need_rows : Has M false 7 "need_rows" ["rows"] m_need_rows) (h_over_by : Has M false 6 "over_by" ["rows"] m_over_by) (F : TopFn M "first_over" s_first_over ["rows"]) : Has M false 8 "first_over" ["rows"] m_first_over := has_of F sc_first_over t_first_over rfl rfl (fun X c => b_first_over T h_need_rows h_over_by c)
abbrev s_area_of : Stmt := topS 72
def B_area_of : Tb := ⟨["rows", "some", "lows", "found", "low", "high", "stretches", ".0", "row", "stone", "here"], [0, 1, 2, 3, 4, 5, 6], [0, 1, 2, 3, 4, 5, 6], [0, 1, 2, 3, 6], ["need_rows", "all_stones", "sorted", "set", "zip", "wide_of"], ["low", "high"], true, false, none⟩
theorem sc_area_of : FnScope B_area_of.N ["rows"] (defScope s_area_of) := ⟨rfl, rfl, rfl, by decide +kernel, rfl, by decide +kernel, by decide +kernel⟩
theorem t_area_of : fnT B_area_of (defScope s_area_of) = true := by decide +kernel
noncomputable def d_area_of : En → Sto → SR :=
    (sSeq (sExp (eCall m_need_rows (aCons (eVar 0) aNil)))
    (sSeq sNo
    (sSeq sNo
    (sSeq sNo
    (sSeq sNo
    sNo)))))
noncomputable def m_area_of : List Wv → Sto → Rs Wv := mkF 1 11 d_area_of
theorem b_area_of {M : Md} {X : Cx} (T : Hs M) (h_need_rows : Has M false 7 "need_rows" ["rows"] m_need_rows) (c : Cxt M X B_area_of 7) : DB X (defBody s_area_of) d_area_of :=
    (db_cons (ds_exp (de_fn c (h_need_rows.up (by decide)) 0 rfl (da_cons (de_var c 0 rfl (by decide)) da_nil)))
    (db_cons ds_no
    (db_cons ds_no
    (db_cons ds_no
    (db_cons ds_no
    (db_one ds_no))))))
theorem h_area_of {M : Md} (T : Hs M) (h_need_rows : Has M false 7 "need_rows" ["rows"] m_need_rows) (F : TopFn M "area_of" s_area_of ["rows"]) : Has M false 8 "area_of" ["rows"] m_area_of := has_of F sc_area_of t_area_of rfl rfl (fun X c => b_area_of T h_need_rows c)
abbrev s__law_rows_right : Stmt := topS 94
def B__law_rows_right : Tb := ⟨["_law_row_here", "_law_bad", "_law_some", "_law_x", "_law_y", ".0", "_law_call"], [0, 1, 2, 3, 4], [0, 1, 2, 3, 4], [], ["first_over", "area_of", "_law_word"], ["_law_row_here", "_law_bad", "_law_some", "_law_x", "_law_y"], true, false, (some "_law_rows_right.<locals>.<lambda>")⟩
theorem sc__law_rows_right : FnScope B__law_rows_right.N ["_law_row_here"] (defScope s__law_rows_right) := ⟨rfl, rfl, rfl, by decide +kernel, rfl, by decide +kernel, by decide +kernel⟩
theorem t__law_rows_right : fnT B__law_rows_right (defScope s__law_rows_right) = true := by decide +kernel
noncomputable def d__law_rows_right_l1 : En → Sto → SR :=
    (sWp [1] (sIf (tBl (eOp2 neD (eLcF ["first_over", "area_of"] 6 (eSaid told__law_word fl__law_word (eCallV (fun x => List.lookup x [("first_over", m_first_over), ("area_of", m_area_of)]) 6 (aCons (eVar 1) aNil))) [5, 6]) (eOp2 mulD (eLst (aCons (eTup (aCons (eK (.str "row")) aNil)) aNil)) (eK (.int 2))))) (sRet (eK (.bool false))) sNil))
noncomputable def d__law_rows_right_l2 : En → Sto → SR :=
    (sWp [2] (sIf (tBl (eOp2 neD (eOp2 ixD (eSaid told__law_word fl__law_word (eCall m_first_over (aCons (eVar 2) aNil))) (eK (.int 0))) (eK (.str "told")))) (sRet (eK (.bool false))) sNil))
noncomputable def d__law_rows_right_l3 : En → Sto → SR :=
    (sWp [3, 4] (sIf (tBl (eOp2 neD (eSaid told__law_word fl__law_word (eCall m_at_square (aCons (eTup (aCons (eVar 0) aNil)) (aCons (eVar 3) (aCons (eVar 4) aNil))))) (eTup (aCons (eK (.str "place")) aNil)))) (sRet (eK (.bool false))) sNil))
noncomputable def d__law_rows_right : En → Sto → SR :=
    (sSeq (sFor (cSeq (eLst (aCons (eK .none) (aCons (eVar 0) (aCons (eLst (aCons (eVar 0) aNil)) (aCons (eOp2 mulD (eTup (aCons (eVar 0) aNil)) (eK (.int 7))) (aCons (eTup (aCons (eK .none) aNil)) (aCons (eK (.str "rows")) aNil)))))))) (gN 1) d__law_rows_right_l1)
    (sSeq (sFor (cSeq (eLst (aCons (eTup aNil) (aCons (eOp2 mulD (eTup (aCons (eVar 0) aNil)) (eK (.int 6))) aNil)))) (gN 2) d__law_rows_right_l2)
    (sSeq (sFor (cSeq (eLst (aCons (eTup (aCons (eK .none) (aCons (eK (.int 0)) aNil))) (aCons (eTup (aCons (eK (.int 0)) (aCons (eK .none) aNil))) (aCons (eTup (aCons (eK (.bool true)) (aCons (eK (.int 0)) aNil))) (aCons (eTup (aCons (eK (.int 0)) (aCons (eK (.str "0")) aNil))) (aCons (eTup (aCons (eTup (aCons (eK (.int 0)) aNil)) (aCons (eK (.int 0)) aNil))) aNil))))))) (gTp (gCn (gN 3) (gCn (gN 4) gNl))) d__law_rows_right_l3)
    (sRet (eOp2 eqD (eLc (cSeq (eTup (aCons (eK .none) (aCons (eTup (aCons (eK (.int 2)) (aCons (eK (.int 1)) aNil))) (aCons (eTup (aCons (eK (.int 0)) (aCons (eK (.int 10)) aNil))) (aCons (eLst (aCons (eK (.int 0)) (aCons (eK (.int 1)) aNil))) aNil)))))) (gN 1) tYs (eSaid told__law_word fl__law_word (eCall m_in_joints (aCons (eVar 0) (aCons (eVar 1) aNil)))) [5, 1]) (eOp2 mulD (eLst (aCons (eTup (aCons (eK (.str "joints")) aNil)) aNil)) (eK (.int 4))))))))
noncomputable def m__law_rows_right : List Wv → Sto → Rs Wv := mkF 1 7 d__law_rows_right
theorem b__law_rows_right {M : Md} {X : Cx} (T : Hs M) (h_area_of : Has M false 8 "area_of" ["rows"] m_area_of) (h_at_square : Has M false 8 "at_square" ["rows", "x", "y"] m_at_square) (h_first_over : Has M false 8 "first_over" ["rows"] m_first_over) (h_in_joints : Has M false 8 "in_joints" ["row", "joints"] m_in_joints) (S__law_word : Sd__law_word M) (c : Cxt M X B__law_rows_right 10) : DB X (defBody s__law_rows_right) d__law_rows_right :=
    (db_cons (ds_for c [1] (di_seq (de_lst (da_cons de_non (da_cons (de_var c 0 rfl (by decide)) (da_cons (de_lst (da_cons (de_var c 0 rfl (by decide)) da_nil)) (da_cons (de_bin o_mul (de_tup (da_cons (de_var c 0 rfl (by decide)) da_nil)) de_int) (da_cons (de_tup (da_cons de_non da_nil)) (da_cons de_str da_nil)))))))) (dg_name c [1] 1 rfl (by decide) (by decide))
    (db_wp [1] (db_one (ds_if (dt_cmp (o_ne c.roomH) (de_lcF c (lcF_ok c [(".0", 5), ("_law_call", 6)] [5, 6, 1] [5, 6] ["_law_word"] ["_law_call", "_law_bad"] 6 (by decide +kernel) (fnl_cons c 0 rfl T.a_first_over (fnl_cons c 1 rfl T.a_area_of fnl_nil)) rfl (by decide) (by decide) (by decide) (fun _ c12 => (de_said (kb := 8) c12 S__law_word 0 rfl rfl [1, 6] [] (by decide +kernel) (by decide) (by decide) (fun _ c13 => (de_callv c13 (fnt_cons T.a_first_over (h_first_over.up (by decide)) (fnt_cons T.a_area_of (h_area_of.up (by decide)) fnt_nil)) 6 rfl (by decide) (da_cons (de_var c13 1 rfl (by decide)) da_nil))))))) (de_bin o_mul (de_lst (da_cons (de_tup (da_cons de_str da_nil)) da_nil)) de_int) (nomark _)) (db_one (ds_ret de_bl)) db_nil))))
    (db_cons (ds_for c [2] (di_seq (de_lst (da_cons (de_tup da_nil) (da_cons (de_bin o_mul (de_tup (da_cons (de_var c 0 rfl (by decide)) da_nil)) de_int) da_nil)))) (dg_name c [2] 2 rfl (by decide) (by decide))
    (db_wp [2] (db_one (ds_if (dt_cmp (o_ne c.roomH) (de_ix c.roomH (de_said (kb := 8) c S__law_word 2 rfl rfl [2] ["first_over"] (by decide +kernel) (by decide) (by decide) (fun _ c14 => (de_fn c14 (h_first_over.up (by decide)) 0 rfl (da_cons (de_var c14 2 rfl (by decide)) da_nil)))) de_int (fun _ _ => rfl)) de_str (nomark _)) (db_one (ds_ret de_bl)) db_nil))))
    (db_cons (ds_for c [3, 4] (di_seq (de_lst (da_cons (de_tup (da_cons de_non (da_cons de_int da_nil))) (da_cons (de_tup (da_cons de_int (da_cons de_non da_nil))) (da_cons (de_tup (da_cons de_bl (da_cons de_int da_nil))) (da_cons (de_tup (da_cons de_int (da_cons de_str da_nil))) (da_cons (de_tup (da_cons (de_tup (da_cons de_int da_nil)) (da_cons de_int da_nil))) da_nil))))))) (dg_tup c (dgs_cons (dg_name c [3, 4] 3 rfl (by decide) (by decide)) (dgs_cons (dg_name c [3, 4] 4 rfl (by decide) (by decide)) (dgs_nil [3, 4]))) (asks_cons (asks_cons asks_nil)))
    (db_wp [3, 4] (db_one (ds_if (dt_cmp (o_ne c.roomH) (de_said (kb := 8) c S__law_word 2 rfl rfl [0, 3, 4] ["at_square"] (by decide +kernel) (by decide) (by decide) (fun _ c15 => (de_fn c15 (h_at_square.up (by decide)) 0 rfl (da_cons (de_tup (da_cons (de_var c15 0 rfl (by decide)) da_nil)) (da_cons (de_var c15 3 rfl (by decide)) (da_cons (de_var c15 4 rfl (by decide)) da_nil)))))) (de_tup (da_cons de_str da_nil)) (nomark _)) (db_one (ds_ret de_bl)) db_nil))))
    (db_one (ds_ret (de_cmp (o_eq c.roomH) (de_lc c (lc_ok c [(".0", 5), ("_law_bad", 1)] [5, 1, 0] [5, 1] ["_law_word"] ["_law_bad", "_law_row_here"] (by decide +kernel) (di_seq (de_tup (da_cons de_non (da_cons (de_tup (da_cons de_int (da_cons de_int da_nil))) (da_cons (de_tup (da_cons de_int (da_cons de_int da_nil))) (da_cons (de_lst (da_cons de_int (da_cons de_int da_nil))) da_nil)))))) (by decide) (fun _ c16 => (dg_name c16 [5, 1] 1 rfl (by decide) (by decide))) (fun _ c16 => dts_nil) (fun _ c16 => (de_said (kb := 8) c16 S__law_word 0 rfl rfl [1, 0] ["in_joints"] (by decide +kernel) (by decide) (by decide) (fun _ c17 => (de_fn c17 (h_in_joints.up (by decide)) 0 rfl (da_cons (de_var c17 0 rfl (by decide)) (da_cons (de_var c17 1 rfl (by decide)) da_nil)))))))) (de_bin o_mul (de_lst (da_cons (de_tup (da_cons de_str da_nil)) da_nil)) de_int) (nomark _)))))))
theorem h__law_rows_right {M : Md} (T : Hs M) (h_area_of : Has M false 8 "area_of" ["rows"] m_area_of) (h_at_square : Has M false 8 "at_square" ["rows", "x", "y"] m_at_square) (h_first_over : Has M false 8 "first_over" ["rows"] m_first_over) (h_in_joints : Has M false 8 "in_joints" ["row", "joints"] m_in_joints) (S__law_word : Sd__law_word M) (LT : LamT M "_law_rows_right" "_law_rows_right.<locals>.<lambda>") (F : TopFn M "_law_rows_right" s__law_rows_right ["_law_row_here"]) : Has M false 11 "_law_rows_right" ["_law_row_here"] m__law_rows_right := has_of F sc__law_rows_right t__law_rows_right rfl rfl (fun X c => b__law_rows_right T h_area_of h_at_square h_first_over h_in_joints S__law_word c) (fun q e => by cases e; exact LT)
abbrev s__law_bent_stones : Stmt := topS 91
def B__law_bent_stones : Tb := ⟨["_law_stones_here", "_law_at", "_law_start", "_law_long", "_law_found", "_law_others", "_law_other"], [0, 1, 2, 3, 4, 5, 6], [0, 1, 2, 3, 4, 5, 6], [0, 1, 2, 3, 4, 5, 6], ["list"], [], true, false, none⟩
theorem sc__law_bent_stones : FnScope B__law_bent_stones.N ["_law_stones_here", "_law_at"] (defScope s__law_bent_stones) := ⟨rfl, rfl, rfl, by decide +kernel, rfl, by decide +kernel, by decide +kernel⟩
theorem t__law_bent_stones : fnT B__law_bent_stones (defScope s__law_bent_stones) = true := by decide +kernel
noncomputable def d__law_bent_stones_l1 : En → Sto → SR :=
    (sExp (eM appW (eVar 4) (aCons (eOp2 addD (eOp2 addD (eSlice (eVar 0) pNo (pSome (eVar 1))) (eTup (aCons (eVar 6) aNil))) (eSlice (eVar 0) (pSome (eOp2 addD (eVar 1) (eK (.int 1)))) pNo)) aNil)))
noncomputable def d__law_bent_stones : En → Sto → SR :=
    (sSeq (sAsg (gTp (gCn (gN 2) (gCn (gN 3) gNl))) (eOp2 ixD (eVar 0) (eVar 1)))
    (sSeq (sSet 4 (eNewL (aCons (eOp2 addD (eSlice (eVar 0) pNo (pSome (eVar 1))) (eSlice (eVar 0) (pSome (eOp2 addD (eVar 1) (eK (.int 1)))) pNo)) (aCons (eOp2 addD (eSlice (eVar 0) pNo (pSome (eOp2 addD (eVar 1) (eK (.int 1))))) (eSlice (eVar 0) (pSome (eVar 1)) pNo)) (aCons (eOp1 revD (eVar 0)) (aCons (eOpN lstF (aCons (eVar 0) aNil)) (aCons (eTup aNil) (aCons (eK .none) aNil))))))))
    (sSeq (sExp (eM appW (eVar 4) (aCons (eSlice (eOp2 mulD (eVar 0) (eK (.int 13))) pNo (pSome (eK (.int 13)))) aNil)))
    (sSeq (sSet 5 (eLst (aCons (eTup (aCons (eOp2 addD (eVar 2) (eK (.int 1))) (aCons (eVar 3) aNil))) (aCons (eTup (aCons (eOp2 subD (eVar 2) (eK (.int 1))) (aCons (eVar 3) aNil))) (aCons (eTup (aCons (eVar 2) (aCons (eOp2 addD (eVar 3) (eK (.int 1))) aNil))) (aCons (eTup (aCons (eVar 2) (aCons (eK (.int 0)) aNil))) (aCons (eTup (aCons (eVar 2) (aCons (eK (.int 21)) aNil))) (aCons (eTup (aCons (eOp1 negD (eK (.int 1))) (aCons (eVar 3) aNil))) aNil))))))))
    (sSeq (sSet 5 (eOp2 addD (eVar 5) (eLst (aCons (eTup (aCons (eK (.bool true)) (aCons (eVar 3) aNil))) (aCons (eTup (aCons (eVar 2) (aCons (eK (.bool true)) aNil))) (aCons (eTup (aCons (eVar 2) (aCons (eK .none) aNil))) (aCons (eTup (aCons (eVar 2) aNil)) (aCons (eTup (aCons (eVar 2) (aCons (eVar 3) (aCons (eK (.int 1)) aNil)))) (aCons (eLst (aCons (eVar 2) (aCons (eVar 3) aNil))) (aCons (eK .none) aNil))))))))))
    (sSeq (sFor (cSeq (eOp2 addD (eVar 5) (eLst (aCons (eVar 2) (aCons (eTup (aCons (eVar 2) (aCons (eOp2 powD (eK (.int 10)) (eK (.int 29))) aNil))) aNil))))) (gN 6) d__law_bent_stones_l1)
    (sRetF (eVar 4))))))))
noncomputable def m__law_bent_stones : List Wv → Sto → Rs Wv := mkF 2 7 d__law_bent_stones
theorem b__law_bent_stones {M : Md} {X : Cx} (T : Hs M)  (c : Cxt M X B__law_bent_stones 0) : DB X (defBody s__law_bent_stones) d__law_bent_stones :=
    (db_cons (ds_asg (de_ix c.roomH (de_var c 0 rfl (by decide)) (de_var c 1 rfl (by decide)) (fun _ _ => rfl)) (dg_tup c (dgs_cons (dg_name c [2, 3] 2 rfl (by decide) (by decide)) (dgs_cons (dg_name c [2, 3] 3 rfl (by decide) (by decide)) (dgs_nil [2, 3]))) (asks_cons (asks_cons asks_nil))))
    (db_cons (ds_set c 4 rfl (by decide) (de_newl (da_cons (de_bin o_add (de_slice (de_var c 0 rfl (by decide)) do_no (do_some (de_var c 1 rfl (by decide)))) (de_slice (de_var c 0 rfl (by decide)) (do_some (de_bin o_add (de_var c 1 rfl (by decide)) de_int)) do_no)) (da_cons (de_bin o_add (de_slice (de_var c 0 rfl (by decide)) do_no (do_some (de_bin o_add (de_var c 1 rfl (by decide)) de_int))) (de_slice (de_var c 0 rfl (by decide)) (do_some (de_var c 1 rfl (by decide))) do_no)) (da_cons (de_rev (de_var c 0 rfl (by decide))) (da_cons (de_callT (T := "list") c c_lst 0 rfl T.z_list (by decide +kernel) (da_cons (de_var c 0 rfl (by decide)) da_nil)) (da_cons (de_tup da_nil) (da_cons de_non da_nil))))))))
    (db_cons (ds_exp (de_append (de_var c 4 rfl (by decide)) (da_cons (de_slice (de_bin o_mul (de_var c 0 rfl (by decide)) de_int) do_no (do_some de_int)) da_nil)))
    (db_cons (ds_set c 5 rfl (by decide) (de_lst (da_cons (de_tup (da_cons (de_bin o_add (de_var c 2 rfl (by decide)) de_int) (da_cons (de_var c 3 rfl (by decide)) da_nil))) (da_cons (de_tup (da_cons (de_bin o_sub (de_var c 2 rfl (by decide)) de_int) (da_cons (de_var c 3 rfl (by decide)) da_nil))) (da_cons (de_tup (da_cons (de_var c 2 rfl (by decide)) (da_cons (de_bin o_add (de_var c 3 rfl (by decide)) de_int) da_nil))) (da_cons (de_tup (da_cons (de_var c 2 rfl (by decide)) (da_cons de_int da_nil))) (da_cons (de_tup (da_cons (de_var c 2 rfl (by decide)) (da_cons de_int da_nil))) (da_cons (de_tup (da_cons (de_un o_neg de_int) (da_cons (de_var c 3 rfl (by decide)) da_nil))) da_nil))))))))
    (db_cons (ds_set c 5 rfl (by decide) (de_bin o_add (de_var c 5 rfl (by decide)) (de_lst (da_cons (de_tup (da_cons de_bl (da_cons (de_var c 3 rfl (by decide)) da_nil))) (da_cons (de_tup (da_cons (de_var c 2 rfl (by decide)) (da_cons de_bl da_nil))) (da_cons (de_tup (da_cons (de_var c 2 rfl (by decide)) (da_cons de_non da_nil))) (da_cons (de_tup (da_cons (de_var c 2 rfl (by decide)) da_nil)) (da_cons (de_tup (da_cons (de_var c 2 rfl (by decide)) (da_cons (de_var c 3 rfl (by decide)) (da_cons de_int da_nil)))) (da_cons (de_lst (da_cons (de_var c 2 rfl (by decide)) (da_cons (de_var c 3 rfl (by decide)) da_nil))) (da_cons de_non da_nil))))))))))
    (db_cons (ds_for c [6] (di_seq (de_bin o_add (de_var c 5 rfl (by decide)) (de_lst (da_cons (de_var c 2 rfl (by decide)) (da_cons (de_tup (da_cons (de_var c 2 rfl (by decide)) (da_cons (de_bin o_pow de_int de_int) da_nil))) da_nil))))) (dg_name c [6] 6 rfl (by decide) (by decide))
    (db_one (ds_exp (de_append (de_var c 4 rfl (by decide)) (da_cons (de_bin o_add (de_bin o_add (de_slice (de_var c 0 rfl (by decide)) do_no (do_some (de_var c 1 rfl (by decide)))) (de_tup (da_cons (de_var c 6 rfl (by decide)) da_nil))) (de_slice (de_var c 0 rfl (by decide)) (do_some (de_bin o_add (de_var c 1 rfl (by decide)) de_int)) do_no)) da_nil)))))
    (db_one (ds_retf (de_var c 4 rfl (by decide))))))))))
theorem h__law_bent_stones {M : Md} (T : Hs M)  (F : TopFn M "_law_bent_stones" s__law_bent_stones ["_law_stones_here", "_law_at"]) : Has M false 1 "_law_bent_stones" ["_law_stones_here", "_law_at"] m__law_bent_stones := has_of F sc__law_bent_stones t__law_bent_stones rfl rfl (fun X c => b__law_bent_stones T  c)
abbrev s__law_bent_laid : Stmt := topS 92
def B__law_bent_laid : Tb := ⟨["_law_pen", "_law_laid", "_law_at", "_law_found", ".0", "_law_one"], [0, 1, 2, 3], [0, 1, 2, 3], [0, 3], ["_law_draw", "len", "_law_bent_stones", "list"], ["_law_laid", "_law_at"], true, false, none⟩
theorem sc__law_bent_laid : FnScope B__law_bent_laid.N ["_law_pen", "_law_laid"] (defScope s__law_bent_laid) := ⟨rfl, rfl, rfl, by decide +kernel, rfl, by decide +kernel, by decide +kernel⟩
theorem t__law_bent_laid : fnT B__law_bent_laid (defScope s__law_bent_laid) = true := by decide +kernel
noncomputable def d__law_bent_laid : En → Sto → SR :=
    (sSeq (sSet 2 (eCall m__law_draw (aCons (eVar 0) (aCons (eOpN lenF (aCons (eVar 1) aNil)) aNil))))
    (sSeq (sSet 3 (eLc (cSeq (eCall m__law_bent_stones (aCons (eOp2 ixD (eVar 1) (eVar 2)) (aCons (eCall m__law_draw (aCons (eVar 0) (aCons (eOpN lenF (aCons (eOp2 ixD (eVar 1) (eVar 2)) aNil)) aNil))) aNil)))) (gN 5) tYs (eOp2 addD (eOp2 addD (eSlice (eVar 1) pNo (pSome (eVar 2))) (eTup (aCons (eVar 5) aNil))) (eSlice (eVar 1) (pSome (eOp2 addD (eVar 2) (eK (.int 1)))) pNo)) [4, 5]))
    (sRet (eOp2 addD (eVar 3) (eLst (aCons (eOp2 addD (eSlice (eVar 1) pNo (pSome (eVar 2))) (eSlice (eVar 1) (pSome (eOp2 addD (eVar 2) (eK (.int 1)))) pNo)) (aCons (eOp2 addD (eVar 1) (eSlice (eVar 1) (pSome (eOp1 negD (eK (.int 1)))) pNo)) (aCons (eOp1 revD (eVar 1)) (aCons (eOpN lstF (aCons (eVar 1) aNil)) (aCons (eTup aNil) (aCons (eK .none) (aCons (eOp2 ixD (eVar 1) (eK (.int 0))) (aCons (eK (.str "laid")) aNil)))))))))))))
noncomputable def m__law_bent_laid : List Wv → Sto → Rs Wv := mkF 2 6 d__law_bent_laid
theorem b__law_bent_laid {M : Md} {X : Cx} (T : Hs M) (h__law_bent_stones : Has M false 1 "_law_bent_stones" ["_law_stones_here", "_law_at"] m__law_bent_stones) (h__law_draw : Has M false 2 "_law_draw" ["_law_pen", "_law_many"] m__law_draw) (c : Cxt M X B__law_bent_laid 2) : DB X (defBody s__law_bent_laid) d__law_bent_laid :=
    (db_cons (ds_set c 2 rfl (by decide) (de_fn c (h__law_draw.up (by decide)) 0 rfl (da_cons (de_var c 0 rfl (by decide)) (da_cons (de_callB (id := "len") c c_len 1 rfl T.z_len (by decide +kernel) (da_cons (de_var c 1 rfl (by decide)) da_nil)) da_nil))))
    (db_cons (ds_setlc c 3 rfl (by decide) rfl (lc_ok c [(".0", 4), ("_law_one", 5)] [4, 5, 2, 1] [4, 5] [] ["_law_at", "_law_laid"] (by decide +kernel) (di_seq (de_fn c (h__law_bent_stones.up (by decide)) 2 rfl (da_cons (de_ix c.roomH (de_var c 1 rfl (by decide)) (de_var c 2 rfl (by decide)) (fun _ _ => rfl)) (da_cons (de_fn c (h__law_draw.up (by decide)) 0 rfl (da_cons (de_var c 0 rfl (by decide)) (da_cons (de_callB (id := "len") c c_len 1 rfl T.z_len (by decide +kernel) (da_cons (de_ix c.roomH (de_var c 1 rfl (by decide)) (de_var c 2 rfl (by decide)) (fun _ _ => rfl)) da_nil)) da_nil))) da_nil)))) (by decide) (fun _ c18 => (dg_name c18 [4, 5] 5 rfl (by decide) (by decide))) (fun _ c18 => dts_nil) (fun _ c18 => (de_bin o_add (de_bin o_add (de_slice (de_var c18 1 rfl (by decide)) do_no (do_some (de_var c18 2 rfl (by decide)))) (de_tup (da_cons (de_var c18 5 rfl (by decide)) da_nil))) (de_slice (de_var c18 1 rfl (by decide)) (do_some (de_bin o_add (de_var c18 2 rfl (by decide)) de_int)) do_no)))) rfl (by decide +kernel))
    (db_one (ds_ret (de_bin o_add (de_var c 3 rfl (by decide)) (de_lst (da_cons (de_bin o_add (de_slice (de_var c 1 rfl (by decide)) do_no (do_some (de_var c 2 rfl (by decide)))) (de_slice (de_var c 1 rfl (by decide)) (do_some (de_bin o_add (de_var c 2 rfl (by decide)) de_int)) do_no)) (da_cons (de_bin o_add (de_var c 1 rfl (by decide)) (de_slice (de_var c 1 rfl (by decide)) (do_some (de_un o_neg de_int)) do_no)) (da_cons (de_rev (de_var c 1 rfl (by decide))) (da_cons (de_callT (T := "list") c c_lst 3 rfl T.z_list (by decide +kernel) (da_cons (de_var c 1 rfl (by decide)) da_nil)) (da_cons (de_tup da_nil) (da_cons de_non (da_cons (de_ix c.roomH (de_var c 1 rfl (by decide)) de_int (fun _ _ => rfl)) (da_cons de_str da_nil))))))))))))))
theorem h__law_bent_laid {M : Md} (T : Hs M) (h__law_bent_stones : Has M false 1 "_law_bent_stones" ["_law_stones_here", "_law_at"] m__law_bent_stones) (h__law_draw : Has M false 2 "_law_draw" ["_law_pen", "_law_many"] m__law_draw) (F : TopFn M "_law_bent_laid" s__law_bent_laid ["_law_pen", "_law_laid"]) : Has M false 3 "_law_bent_laid" ["_law_pen", "_law_laid"] m__law_bent_laid := has_of F sc__law_bent_laid t__law_bent_laid rfl rfl (fun X c => b__law_bent_laid T h__law_bent_stones h__law_draw c)
abbrev s_stones_of : Stmt := topS 62
def B_stones_of : Tb := ⟨["row"], [0], [0], [0], ["need_row", "rectangles"], [], true, false, none⟩
theorem sc_stones_of : FnScope B_stones_of.N ["row"] (defScope s_stones_of) := ⟨rfl, rfl, rfl, by decide +kernel, rfl, by decide +kernel, by decide +kernel⟩
theorem t_stones_of : fnT B_stones_of (defScope s_stones_of) = true := by decide +kernel
noncomputable def d_stones_of : En → Sto → SR :=
    (sSeq (sExp (eCall m_need_row (aCons (eVar 0) aNil)))
    sNo)
noncomputable def m_stones_of : List Wv → Sto → Rs Wv := mkF 1 1 d_stones_of
theorem b_stones_of {M : Md} {X : Cx} (T : Hs M) (h_need_row : Has M false 7 "need_row" ["row"] m_need_row) (c : Cxt M X B_stones_of 7) : DB X (defBody s_stones_of) d_stones_of :=
    (db_cons (ds_exp (de_fn c (h_need_row.up (by decide)) 0 rfl (da_cons (de_var c 0 rfl (by decide)) da_nil)))
    (db_one ds_no))
theorem h_stones_of {M : Md} (T : Hs M) (h_need_row : Has M false 7 "need_row" ["row"] m_need_row) (F : TopFn M "stones_of" s_stones_of ["row"]) : Has M false 8 "stones_of" ["row"] m_stones_of := has_of F sc_stones_of t_stones_of rfl rfl (fun X c => b_stones_of T h_need_row c)
abbrev s_apart : Stmt := topS 67
def B_apart : Tb := ⟨["one", "other", "found", "here", ".0", "there"], [0, 1, 2, 3], [0, 1, 2, 3], [0, 1, 2], ["need_row", "rectangles", "min"], ["here"], true, false, none⟩
theorem sc_apart : FnScope B_apart.N ["one", "other"] (defScope s_apart) := ⟨rfl, rfl, rfl, by decide +kernel, rfl, by decide +kernel, by decide +kernel⟩
theorem t_apart : fnT B_apart (defScope s_apart) = true := by decide +kernel
noncomputable def d_apart : En → Sto → SR :=
    (sSeq (sExp (eCall m_need_row (aCons (eVar 0) aNil)))
    (sSeq (sExp (eCall m_need_row (aCons (eVar 1) aNil)))
    (sSeq sNo
    (sSeq sNo
    sNo))))
noncomputable def m_apart : List Wv → Sto → Rs Wv := mkF 2 6 d_apart
theorem b_apart {M : Md} {X : Cx} (T : Hs M) (h_need_row : Has M false 7 "need_row" ["row"] m_need_row) (c : Cxt M X B_apart 7) : DB X (defBody s_apart) d_apart :=
    (db_cons (ds_exp (de_fn c (h_need_row.up (by decide)) 0 rfl (da_cons (de_var c 0 rfl (by decide)) da_nil)))
    (db_cons (ds_exp (de_fn c (h_need_row.up (by decide)) 0 rfl (da_cons (de_var c 1 rfl (by decide)) da_nil)))
    (db_cons ds_no
    (db_cons ds_no
    (db_one ds_no)))))
theorem h_apart {M : Md} (T : Hs M) (h_need_row : Has M false 7 "need_row" ["row"] m_need_row) (F : TopFn M "apart" s_apart ["one", "other"]) : Has M false 8 "apart" ["one", "other"] m_apart := has_of F sc_apart t_apart rfl rfl (fun X c => b_apart T h_need_row c)
abbrev s_joints_of : Stmt := topS 74
def B_joints_of : Tb := ⟨["row", "found", "stones", "strip", ".0", "start", "long"], [0, 1, 2, 3], [0, 1, 2, 3], [0, 1, 2, 3], ["need_row", "zip", "strips_by", "sum"], [], true, false, none⟩
theorem sc_joints_of : FnScope B_joints_of.N ["row"] (defScope s_joints_of) := ⟨rfl, rfl, rfl, by decide +kernel, rfl, by decide +kernel, by decide +kernel⟩
theorem t_joints_of : fnT B_joints_of (defScope s_joints_of) = true := by decide +kernel
noncomputable def d_joints_of : En → Sto → SR :=
    (sSeq (sExp (eCall m_need_row (aCons (eVar 0) aNil)))
    (sSeq sNo
    (sSeq sNo
    sNo)))
noncomputable def m_joints_of : List Wv → Sto → Rs Wv := mkF 1 7 d_joints_of
theorem b_joints_of {M : Md} {X : Cx} (T : Hs M) (h_need_row : Has M false 7 "need_row" ["row"] m_need_row) (c : Cxt M X B_joints_of 7) : DB X (defBody s_joints_of) d_joints_of :=
    (db_cons (ds_exp (de_fn c (h_need_row.up (by decide)) 0 rfl (da_cons (de_var c 0 rfl (by decide)) da_nil)))
    (db_cons ds_no
    (db_cons ds_no
    (db_one ds_no))))
theorem h_joints_of {M : Md} (T : Hs M) (h_need_row : Has M false 7 "need_row" ["row"] m_need_row) (F : TopFn M "joints_of" s_joints_of ["row"]) : Has M false 8 "joints_of" ["row"] m_joints_of := has_of F sc_joints_of t_joints_of rfl rfl (fun X c => b_joints_of T h_need_row c)
abbrev s__law_refused : Stmt := topS 93
def B__law_refused : Tb := ⟨["_law_bad", "_law_row_here", "_law_calls", ".0", "_law_call"], [0, 1, 2], [0, 1, 2], [2], [], ["_law_bad", "_law_row_here"], true, false, (some "_law_refused.<locals>.<lambda>")⟩
theorem sc__law_refused : FnScope B__law_refused.N ["_law_bad", "_law_row_here"] (defScope s__law_refused) := ⟨rfl, rfl, rfl, by decide +kernel, rfl, by decide +kernel, by decide +kernel⟩
theorem t__law_refused : fnT B__law_refused (defScope s__law_refused) = true := by decide +kernel
noncomputable def d__law_refused : En → Sto → SR :=
    (sLm 2 (sRet (eOp2 eqD (eLams told__law_word fl__law_word [(eCall m_in_joints (aCons (eVar 0) (aCons (eK .none) aNil))), (eCall m_stones_of (aCons (eVar 0) aNil)), (eCall m_apart (aCons (eVar 0) (aCons (eVar 1) aNil))), (eCall m_apart (aCons (eVar 1) (aCons (eVar 0) aNil))), (eCall m_joints_of (aCons (eVar 0) aNil)), (eCall m_first_over (aCons (eTup (aCons (eVar 1) (aCons (eVar 0) aNil))) aNil)), (eCall m_area_of (aCons (eTup (aCons (eVar 0) aNil)) aNil)), (eCall m_at_square (aCons (eTup (aCons (eVar 0) aNil)) (aCons (eK .none) (aCons (eK (.int 0)) aNil))))]) (eOp2 mulD (eLst (aCons (eTup (aCons (eK (.str "row")) aNil)) aNil)) (eK (.int 8))))))
noncomputable def m__law_refused : List Wv → Sto → Rs Wv := mkF 2 5 d__law_refused
theorem b__law_refused {M : Md} {X : Cx} (T : Hs M) (h_apart : Has M false 8 "apart" ["one", "other"] m_apart) (h_area_of : Has M false 8 "area_of" ["rows"] m_area_of) (h_at_square : Has M false 8 "at_square" ["rows", "x", "y"] m_at_square) (h_first_over : Has M false 8 "first_over" ["rows"] m_first_over) (h_in_joints : Has M false 8 "in_joints" ["row", "joints"] m_in_joints) (h_joints_of : Has M false 8 "joints_of" ["row"] m_joints_of) (h_stones_of : Has M false 8 "stones_of" ["row"] m_stones_of) (S__law_word : Sd__law_word M) (c : Cxt M X B__law_refused 10) : DB X (defBody s__law_refused) d__law_refused :=
    (db_lams (j := 2) c rfl (by decide) (lamd_ok (kb := 8) c rfl [0] ["in_joints"] (by decide +kernel) (fun _ c19 => (de_fn c19 (h_in_joints.up (by decide)) 0 rfl (da_cons (de_var c19 0 rfl (by decide)) (da_cons de_non da_nil)))))
    (lb_app c rfl (by decide) (lamd_ok (kb := 8) c rfl [0] ["stones_of"] (by decide +kernel) (fun _ c20 => (de_fn c20 (h_stones_of.up (by decide)) 0 rfl (da_cons (de_var c20 0 rfl (by decide)) da_nil)))) (by decide)
    (lb_app c rfl (by decide) (lamd_ok (kb := 8) c rfl [0, 1] ["apart"] (by decide +kernel) (fun _ c21 => (de_fn c21 (h_apart.up (by decide)) 0 rfl (da_cons (de_var c21 0 rfl (by decide)) (da_cons (de_var c21 1 rfl (by decide)) da_nil))))) (by decide)
    (lb_app c rfl (by decide) (lamd_ok (kb := 8) c rfl [0, 1] ["apart"] (by decide +kernel) (fun _ c22 => (de_fn c22 (h_apart.up (by decide)) 0 rfl (da_cons (de_var c22 1 rfl (by decide)) (da_cons (de_var c22 0 rfl (by decide)) da_nil))))) (by decide)
    (lb_app c rfl (by decide) (lamd_ok (kb := 8) c rfl [0] ["joints_of"] (by decide +kernel) (fun _ c23 => (de_fn c23 (h_joints_of.up (by decide)) 0 rfl (da_cons (de_var c23 0 rfl (by decide)) da_nil)))) (by decide)
    (lb_app c rfl (by decide) (lamd_ok (kb := 8) c rfl [0, 1] ["first_over"] (by decide +kernel) (fun _ c24 => (de_fn c24 (h_first_over.up (by decide)) 0 rfl (da_cons (de_tup (da_cons (de_var c24 1 rfl (by decide)) (da_cons (de_var c24 0 rfl (by decide)) da_nil))) da_nil)))) (by decide)
    (lb_app c rfl (by decide) (lamd_ok (kb := 8) c rfl [0] ["area_of"] (by decide +kernel) (fun _ c25 => (de_fn c25 (h_area_of.up (by decide)) 0 rfl (da_cons (de_tup (da_cons (de_var c25 0 rfl (by decide)) da_nil)) da_nil)))) (by decide)
    (lb_app c rfl (by decide) (lamd_ok (kb := 8) c rfl [0] ["at_square"] (by decide +kernel) (fun _ c26 => (de_fn c26 (h_at_square.up (by decide)) 0 rfl (da_cons (de_tup (da_cons (de_var c26 0 rfl (by decide)) da_nil)) (da_cons de_non (da_cons de_int da_nil)))))) (by decide)
    (lb_retOp (o_eq c.roomH) (fun _ => (pe_lams (kb := 8) (own := [(".0", 3), ("_law_call", 4)]) (us := [3, 4]) (ls := [3, 4]) (gs := ["_law_word"]) (cs := []) (i := 4) (jc := 2) (jg := 0) c S__law_word (by decide +kernel) rfl (by decide) rfl (by decide) (by decide) (by decide) rfl (by decide) (by decide) (by decide) (by decide) (by decide) (by decide) (by decide) (by decide))) (de_bin o_mul (de_lst (da_cons (de_tup (da_cons de_str da_nil)) da_nil)) de_int) (nomark _))))))))))
theorem h__law_refused {M : Md} (T : Hs M) (h_apart : Has M false 8 "apart" ["one", "other"] m_apart) (h_area_of : Has M false 8 "area_of" ["rows"] m_area_of) (h_at_square : Has M false 8 "at_square" ["rows", "x", "y"] m_at_square) (h_first_over : Has M false 8 "first_over" ["rows"] m_first_over) (h_in_joints : Has M false 8 "in_joints" ["row", "joints"] m_in_joints) (h_joints_of : Has M false 8 "joints_of" ["row"] m_joints_of) (h_stones_of : Has M false 8 "stones_of" ["row"] m_stones_of) (S__law_word : Sd__law_word M) (LT : LamT M "_law_refused" "_law_refused.<locals>.<lambda>") (F : TopFn M "_law_refused" s__law_refused ["_law_bad", "_law_row_here"]) : Has M false 11 "_law_refused" ["_law_bad", "_law_row_here"] m__law_refused := has_of F sc__law_refused t__law_refused rfl rfl (fun X c => b__law_refused T h_apart h_area_of h_at_square h_first_over h_in_joints h_joints_of h_stones_of S__law_word c) (fun q e => by cases e; exact LT)
abbrev s_law : Stmt := topS 95
def B_law : Tb := ⟨["_law_script", "_law_line", "_law_ones", "_law_stones_here", "_law_cell", "_law_pen", "_law_row_here", "_law_path_here", "_law_width", "_law_laid", "_law_thing", "_law_due", "_law_other", "_law_odd", "_law_bad", ".0", "_law_many", "_law_k"], [0, 1, 2, 3, 4, 5, 6, 7, 8, 9, 10, 11, 12, 13, 14], [0, 1, 2, 3, 4, 5, 6, 7, 8, 9, 10, 11, 12, 13, 14], [0, 1, 2, 3, 4, 5, 6, 7, 8, 9, 10, 11, 12, 13, 14], ["repr", "is_row", "_law_are_stones", "_law_cell_at", "_law_pen_of", "_law_row", "_law_bent_laid", "_law_is_row", "_law_refused", "range", "list", "_law_rows_right"], [], true, true, none⟩
theorem sc_law : FnScope B_law.N ["_law_script"] (defScope s_law) := ⟨rfl, rfl, rfl, by decide +kernel, rfl, by decide +kernel, by decide +kernel⟩
theorem t_law : fnT B_law (defScope s_law) = true := by decide +kernel
noncomputable def d_law_l1 : En → Sto → SR :=
    (sWp [3] (sIf (tBl (eOp2 neD (eOpN reprF (aCons (eCall m_is_row (aCons (eTup (aCons (eVar 1) (aCons (eK (.int 1)) (aCons (eTup (aCons (eVar 3) aNil)) aNil)))) aNil)) aNil)) (eOpN reprF (aCons (eCall m__law_are_stones (aCons (eVar 3) (aCons (eK (.int 21)) aNil))) aNil)))) (sRet (eK (.bool false))) sNil))
noncomputable def d_law_l2 : En → Sto → SR :=
    (sWp [10, 11] (sSeq (sSet 11 (eCall m__law_is_row (aCons (eVar 7) (aCons (eVar 8) (aCons (eVar 10) aNil)))))
    (sSeq (sIf (tBl (eOp2 neD (eOpN reprF (aCons (eCall m_is_row (aCons (eTup (aCons (eVar 7) (aCons (eVar 8) (aCons (eVar 10) aNil)))) aNil)) aNil)) (eOpN reprF (aCons (eVar 11) aNil)))) (sRet (eK (.bool false))) sNil)
    (sIf (tAnd2 (tNot1 (tTru (eVar 11))) (tNot1 (tTru (eCall m__law_refused (aCons (eTup (aCons (eVar 7) (aCons (eVar 8) (aCons (eVar 10) aNil)))) (aCons (eVar 6) aNil)))))) (sRet (eK (.bool false))) sNil))))
noncomputable def d_law_l3 : En → Sto → SR :=
    (sWp [12] (sIf (tBl (eOp2 neD (eOpN reprF (aCons (eCall m_is_row (aCons (eTup (aCons (eVar 7) (aCons (eVar 12) (aCons (eVar 9) aNil)))) aNil)) aNil)) (eOpN reprF (aCons (eCall m__law_is_row (aCons (eVar 7) (aCons (eVar 12) (aCons (eVar 9) aNil)))) aNil)))) (sRet (eK (.bool false))) sNil))
noncomputable def d_law_l4 : En → Sto → SR :=
    (sWp [14] (sIf (tOr2 (tBl (eOp2 ntBD (eCall m_is_row (aCons (eVar 14) aNil)) (eK (.bool false)))) (tNot1 (tTru (eCall m__law_refused (aCons (eVar 14) (aCons (eVar 6) aNil)))))) (sRet (eK (.bool false))) sNil))
noncomputable def d_law_l5 : En → Sto → SR :=
    (sWp [4, 5, 6, 7, 8, 9, 10, 11, 12, 13, 14] (sSeq (sSet 5 (eCall m__law_pen_of (aCons (eVar 4) aNil)))
    (sSeq (sSet 6 (eCall m__law_row (aCons (eVar 5) aNil)))
    (sSeq (sAsg (gTp (gCn (gN 7) (gCn (gN 8) (gCn (gN 9) gNl)))) (eVar 6))
    (sSeq (sFor (cSeq (eOp2 addD (eOp2 addD (eLst (aCons (eVar 9) aNil)) (eCall m__law_bent_laid (aCons (eVar 5) (aCons (eVar 9) aNil)))) (eLst (aCons (eVar 9) aNil)))) (gN 10) d_law_l2)
    (sSeq (sFor (cRg2 (aCons (eK (.int 1)) (aCons (eK (.int 10)) aNil))) (gN 12) d_law_l3)
    (sSeq (sSet 13 (eLst (aCons (eTup (aCons (eVar 7) (aCons (eK (.int 0)) (aCons (eVar 9) aNil)))) (aCons (eTup (aCons (eVar 7) (aCons (eK (.int 10)) (aCons (eVar 9) aNil)))) (aCons (eTup (aCons (eVar 7) (aCons (eK (.bool true)) (aCons (eVar 9) aNil)))) (aCons (eTup (aCons (eVar 7) (aCons (eK .none) (aCons (eVar 9) aNil)))) (aCons (eTup (aCons (eK .none) (aCons (eVar 8) (aCons (eVar 9) aNil)))) (aCons (eSlice (eVar 6) pNo (pSome (eK (.int 2)))) aNil))))))))
    (sSeq (sFor (cSeq (eOp2 addD (eVar 13) (eLst (aCons (eOp2 addD (eVar 6) (eTup (aCons (eK (.int 0)) aNil))) (aCons (eOpN lstF (aCons (eVar 6) aNil)) (aCons (eOp1 revD (eVar 6)) (aCons (eTup (aCons (eOpN lstF (aCons (eVar 7) aNil)) (aCons (eVar 8) (aCons (eVar 9) aNil)))) (aCons (eTup aNil) (aCons (eK .none) (aCons (eK (.int 3)) (aCons eDic0 (aCons (eK (.str "row")) (aCons (eTup (aCons (eVar 6) aNil)) aNil))))))))))))) (gN 14) d_law_l4)
    (sIf (tNot1 (tTru (eCall m__law_rows_right (aCons (eVar 6) aNil)))) (sRet (eK (.bool false))) sNil)))))))))
noncomputable def d_law : En → Sto → SR :=
    (sSeq (sSet 1 (eTup (aCons (eK (.int 0)) (aCons (eK (.int 0)) (aCons (eTup (aCons (eTup (aCons (eK (.str "east")) (aCons (eK (.int 21)) aNil))) aNil)) aNil)))))
    (sSeq (sSet 2 (eLc (cSeq (eTup (aCons (eK (.int 12)) (aCons (eK (.int 13)) aNil)))) (gN 16) tYs (eOpN tupF (aCons (eLc (cRg1 (aCons (eVar 16) aNil)) (gN 17) tYs (eTup (aCons (eVar 17) (aCons (eK (.int 1)) aNil))) [15, 17]) aNil)) [15, 16]))
    (sSeq (sFor (cSeq (eOp2 addD (eLst (aCons (eTup (aCons (eTup (aCons (eK (.int 0)) (aCons (eK (.int 20)) aNil))) aNil)) (aCons (eTup (aCons (eTup (aCons (eK (.int 0)) (aCons (eK (.int 21)) aNil))) aNil)) (aCons (eTup (aCons (eTup (aCons (eK (.int 1)) (aCons (eK (.int 20)) aNil))) aNil)) (aCons (eTup (aCons (eTup (aCons (eK (.int 1)) (aCons (eK (.int 21)) aNil))) aNil)) aNil))))) (eVar 2))) (gN 3) d_law_l1)
    (sSeq (sFor (cSeq (eOp2 addD (eLst (aCons (eCall m__law_cell_at (aCons (eVar 0) (aCons (eK (.int 0)) aNil))) aNil)) (eSlice (eVar 0) (pSome (eK (.int 1))) (pSome (eK (.int 2)))))) (gN 4) d_law_l5)
    (sRet (eK (.bool true)))))))
noncomputable def m_law : List Wv → Sto → Rs Wv := mkF 1 18 d_law
theorem b_law {M : Md} {X : Cx} (T : Hs M) (h__law_are_stones : Has M false 2 "_law_are_stones" ["_law_thing", "_law_last"] m__law_are_stones) (h__law_bent_laid : Has M false 3 "_law_bent_laid" ["_law_pen", "_law_laid"] m__law_bent_laid) (h__law_cell_at : Has M false 1 "_law_cell_at" ["_law_script", "_law_k"] m__law_cell_at) (h__law_is_row : Has M false 4 "_law_is_row" ["_law_path_here", "_law_width", "_law_laid"] m__law_is_row) (h__law_pen_of : Has M false 1 "_law_pen_of" ["_law_cell"] m__law_pen_of) (h__law_refused : Has M false 11 "_law_refused" ["_law_bad", "_law_row_here"] m__law_refused) (h__law_row : Has M false 4 "_law_row" ["_law_pen"] m__law_row) (h__law_rows_right : Has M false 11 "_law_rows_right" ["_law_row_here"] m__law_rows_right) (h_is_row : Has M false 6 "is_row" ["thing"] m_is_row) (c : Cxt M X B_law 11) : DB X (defBody s_law) d_law :=
    (db_cons (ds_set c 1 rfl (by decide) (de_tup (da_cons de_int (da_cons de_int (da_cons (de_tup (da_cons (de_tup (da_cons de_str (da_cons de_int da_nil))) da_nil)) da_nil)))))
    (db_cons (ds_setlc c 2 rfl (by decide) rfl (lc_ok c [(".0", 15), ("_law_many", 16)] [15, 16] [15, 16] ["tuple", "range"] [] (by decide +kernel) (di_seq (de_tup (da_cons de_int (da_cons de_int da_nil)))) (by decide) (fun _ c28 => (dg_name c28 [15, 16] 16 rfl (by decide) (by decide))) (fun _ c28 => dts_nil) (fun _ c28 => (de_callT (T := "tuple") c28 c_tup 0 rfl T.z_tuple (by decide +kernel) (da_cons (de_lc c28 (lc_ok c28 [(".0", 15), ("_law_k", 17)] [15, 17] [15, 17] [] [] (by decide +kernel) (di_range1 c28 1 rfl T.z_range (da_cons (de_var c28 16 rfl (by decide)) da_nil)) (by decide) (fun _ c29 => (dg_name c29 [15, 17] 17 rfl (by decide) (by decide))) (fun _ c29 => dts_nil) (fun _ c29 => (de_tup (da_cons (de_var c29 17 rfl (by decide)) (da_cons de_int da_nil)))))) da_nil)))) rfl (by decide +kernel))
    (db_cons (ds_for c [3] (di_seq (de_bin o_add (de_lst (da_cons (de_tup (da_cons (de_tup (da_cons de_int (da_cons de_int da_nil))) da_nil)) (da_cons (de_tup (da_cons (de_tup (da_cons de_int (da_cons de_int da_nil))) da_nil)) (da_cons (de_tup (da_cons (de_tup (da_cons de_int (da_cons de_int da_nil))) da_nil)) (da_cons (de_tup (da_cons (de_tup (da_cons de_int (da_cons de_int da_nil))) da_nil)) da_nil))))) (de_var c 2 rfl (by decide)))) (dg_name c [3] 3 rfl (by decide) (by decide))
    (db_wp [3] (db_one (ds_if (dt_cmp (o_ne c.roomH) (de_callB (id := "repr") c (c_repr c.roomH (c.gu rfl) (c.sm T.sm)) 0 rfl T.z_repr (by decide +kernel) (da_cons (de_fn c (h_is_row.up (by decide)) 1 rfl (da_cons (de_tup (da_cons (de_var c 1 rfl (by decide)) (da_cons de_int (da_cons (de_tup (da_cons (de_var c 3 rfl (by decide)) da_nil)) da_nil)))) da_nil)) da_nil)) (de_callB (id := "repr") c (c_repr c.roomH (c.gu rfl) (c.sm T.sm)) 0 rfl T.z_repr (by decide +kernel) (da_cons (de_fn c (h__law_are_stones.up (by decide)) 2 rfl (da_cons (de_var c 3 rfl (by decide)) (da_cons de_int da_nil))) da_nil)) (nomark _)) (db_one (ds_ret de_bl)) db_nil))))
    (db_cons (ds_for c [4] (di_seq (de_bin o_add (de_lst (da_cons (de_fn c (h__law_cell_at.up (by decide)) 3 rfl (da_cons (de_var c 0 rfl (by decide)) (da_cons de_int da_nil))) da_nil)) (de_slice (de_var c 0 rfl (by decide)) (do_some de_int) (do_some de_int)))) (dg_name c [4] 4 rfl (by decide) (by decide))
    (db_wp [4, 5, 6, 7, 8, 9, 10, 11, 12, 13, 14] (db_cons (ds_set c 5 rfl (by decide) (de_fn c (h__law_pen_of.up (by decide)) 4 rfl (da_cons (de_var c 4 rfl (by decide)) da_nil)))
    (db_cons (ds_set c 6 rfl (by decide) (de_fn c (h__law_row.up (by decide)) 5 rfl (da_cons (de_var c 5 rfl (by decide)) da_nil)))
    (db_cons (ds_asg (de_var c 6 rfl (by decide)) (dg_tup c (dgs_cons (dg_name c [7, 8, 9] 7 rfl (by decide) (by decide)) (dgs_cons (dg_name c [7, 8, 9] 8 rfl (by decide) (by decide)) (dgs_cons (dg_name c [7, 8, 9] 9 rfl (by decide) (by decide)) (dgs_nil [7, 8, 9])))) (asks_cons (asks_cons (asks_cons asks_nil)))))
    (db_cons (ds_for c [10] (di_seq (de_bin o_add (de_bin o_add (de_lst (da_cons (de_var c 9 rfl (by decide)) da_nil)) (de_fn c (h__law_bent_laid.up (by decide)) 6 rfl (da_cons (de_var c 5 rfl (by decide)) (da_cons (de_var c 9 rfl (by decide)) da_nil)))) (de_lst (da_cons (de_var c 9 rfl (by decide)) da_nil)))) (dg_name c [10] 10 rfl (by decide) (by decide))
    (db_wp [10, 11] (db_cons (ds_set c 11 rfl (by decide) (de_fn c (h__law_is_row.up (by decide)) 7 rfl (da_cons (de_var c 7 rfl (by decide)) (da_cons (de_var c 8 rfl (by decide)) (da_cons (de_var c 10 rfl (by decide)) da_nil)))))
    (db_cons (ds_if (dt_cmp (o_ne c.roomH) (de_callB (id := "repr") c (c_repr c.roomH (c.gu rfl) (c.sm T.sm)) 0 rfl T.z_repr (by decide +kernel) (da_cons (de_fn c (h_is_row.up (by decide)) 1 rfl (da_cons (de_tup (da_cons (de_var c 7 rfl (by decide)) (da_cons (de_var c 8 rfl (by decide)) (da_cons (de_var c 10 rfl (by decide)) da_nil)))) da_nil)) da_nil)) (de_callB (id := "repr") c (c_repr c.roomH (c.gu rfl) (c.sm T.sm)) 0 rfl T.z_repr (by decide +kernel) (da_cons (de_var c 11 rfl (by decide)) da_nil)) (nomark _)) (db_one (ds_ret de_bl)) db_nil)
    (db_one (ds_if (DW.dt (dw_and (dt_not (dt_val (de_var c 11 rfl (by decide)))) (dw_and1 (dt_not (dt_val (de_fn c (h__law_refused.up (by decide)) 8 rfl (da_cons (de_tup (da_cons (de_var c 7 rfl (by decide)) (da_cons (de_var c 8 rfl (by decide)) (da_cons (de_var c 10 rfl (by decide)) da_nil)))) (da_cons (de_var c 6 rfl (by decide)) da_nil)))))))) (db_one (ds_ret de_bl)) db_nil))))))
    (db_cons (ds_for c [12] (di_range2 c 9 rfl T.z_range (da_cons de_int (da_cons de_int da_nil))) (dg_name c [12] 12 rfl (by decide) (by decide))
    (db_wp [12] (db_one (ds_if (dt_cmp (o_ne c.roomH) (de_callB (id := "repr") c (c_repr c.roomH (c.gu rfl) (c.sm T.sm)) 0 rfl T.z_repr (by decide +kernel) (da_cons (de_fn c (h_is_row.up (by decide)) 1 rfl (da_cons (de_tup (da_cons (de_var c 7 rfl (by decide)) (da_cons (de_var c 12 rfl (by decide)) (da_cons (de_var c 9 rfl (by decide)) da_nil)))) da_nil)) da_nil)) (de_callB (id := "repr") c (c_repr c.roomH (c.gu rfl) (c.sm T.sm)) 0 rfl T.z_repr (by decide +kernel) (da_cons (de_fn c (h__law_is_row.up (by decide)) 7 rfl (da_cons (de_var c 7 rfl (by decide)) (da_cons (de_var c 12 rfl (by decide)) (da_cons (de_var c 9 rfl (by decide)) da_nil)))) da_nil)) (nomark _)) (db_one (ds_ret de_bl)) db_nil))))
    (db_cons (ds_set c 13 rfl (by decide) (de_lst (da_cons (de_tup (da_cons (de_var c 7 rfl (by decide)) (da_cons de_int (da_cons (de_var c 9 rfl (by decide)) da_nil)))) (da_cons (de_tup (da_cons (de_var c 7 rfl (by decide)) (da_cons de_int (da_cons (de_var c 9 rfl (by decide)) da_nil)))) (da_cons (de_tup (da_cons (de_var c 7 rfl (by decide)) (da_cons de_bl (da_cons (de_var c 9 rfl (by decide)) da_nil)))) (da_cons (de_tup (da_cons (de_var c 7 rfl (by decide)) (da_cons de_non (da_cons (de_var c 9 rfl (by decide)) da_nil)))) (da_cons (de_tup (da_cons de_non (da_cons (de_var c 8 rfl (by decide)) (da_cons (de_var c 9 rfl (by decide)) da_nil)))) (da_cons (de_slice (de_var c 6 rfl (by decide)) do_no (do_some de_int)) da_nil))))))))
    (db_cons (ds_for c [14] (di_seq (de_bin o_add (de_var c 13 rfl (by decide)) (de_lst (da_cons (de_bin o_add (de_var c 6 rfl (by decide)) (de_tup (da_cons de_int da_nil))) (da_cons (de_callT (T := "list") c c_lst 10 rfl T.z_list (by decide +kernel) (da_cons (de_var c 6 rfl (by decide)) da_nil)) (da_cons (de_rev (de_var c 6 rfl (by decide))) (da_cons (de_tup (da_cons (de_callT (T := "list") c c_lst 10 rfl T.z_list (by decide +kernel) (da_cons (de_var c 7 rfl (by decide)) da_nil)) (da_cons (de_var c 8 rfl (by decide)) (da_cons (de_var c 9 rfl (by decide)) da_nil)))) (da_cons (de_tup da_nil) (da_cons de_non (da_cons de_int (da_cons de_dic0 (da_cons de_str (da_cons (de_tup (da_cons (de_var c 6 rfl (by decide)) da_nil)) da_nil))))))))))))) (dg_name c [14] 14 rfl (by decide) (by decide))
    (db_wp [14] (db_one (ds_if (DW.dt (dw_or (dt_cmp o_ntBo (de_fn c (h_is_row.up (by decide)) 1 rfl (da_cons (de_var c 14 rfl (by decide)) da_nil)) de_bl (nomark _)) (dw_or1 (dt_not (dt_val (de_fn c (h__law_refused.up (by decide)) 8 rfl (da_cons (de_var c 14 rfl (by decide)) (da_cons (de_var c 6 rfl (by decide)) da_nil)))))))) (db_one (ds_ret de_bl)) db_nil))))
    (db_one (ds_if (dt_not (dt_val (de_fn c (h__law_rows_right.up (by decide)) 11 rfl (da_cons (de_var c 6 rfl (by decide)) da_nil)))) (db_one (ds_ret de_bl)) db_nil)))))))))))
    (db_one (ds_ret de_bl))))))
theorem isc_NoStrip : FnScope ["self", "leg"] ["self", "leg"] (defScope (clsM (topS 23))) := ⟨rfl, rfl, rfl, by decide +kernel, rfl, by decide +kernel, by decide +kernel⟩
theorem nf_NoStrip : (fldX.lookup ("NoStrip" : Str)).getD [] = (["leg"] : List Str) := by decide +kernel
theorem it_NoStrip : initT "StoneError" ["leg"] (defScope (clsM (topS 23))) = true := by decide +kernel
end
section
variable [Tbl] [FnA]
theorem r_cell_at (ns : List Int) (k : Nat) (st : Sto) : m__law_cell_at [.d (.list (ns.map .int)), .d (.int (k : Nat))] st = .ok (.d (.int (ns.getD k 0))) st := by
  unfold m__law_cell_at d__law_cell_at
  by_cases h : k < ns.length
  · have h2 : (k : Int) < ns.length := by omega
    simp [h2, atD_nat, h]
  · have h2 : ¬ (k : Int) < ns.length := by omega
    simp [h2, h]
theorem big_l {i j : Int} (h : 0 ≤ i) (h2 : i < 2147483648) : bigOk i j = true := by
  unfold bigOk
  rw [decide_eq_true (show i.natAbs < 18446744073709551616 by omega)]
  rfl
def nxI (s : Int) : Int := (((s + 7919) % 2147483647) * ((s + 7919) % 2147483647) + 48271 * ((s + 7919) % 2147483647) + 12345) % 2147483629
theorem r_next (s : Int) (st : Sto) : m__law_next [.d (.int s)] st = .ok (.d (.int (nxI s))) st := by
  unfold m__law_next d__law_next
  have h1 : 0 ≤ (s + 7919) % 2147483647 := by omega
  have h2 : (s + 7919) % 2147483647 < 2147483648 := by omega
  simp [big_l h1 h2, big_l (i := 48271) (by decide) (by decide), nxI]
theorem r_pen_of (c : Int) (st : Sto) : ∃ a b d : Int, m__law_pen_of [.d (.int c)] st = .ok (.r st.length) (st ++ [.lst [.int a, .int b, .int d]]) := by
  unfold m__law_pen_of d__law_pen_of
  simp [newW]
theorem r_draw {p : Nat} {st : Sto} (n : Int) (h : Pen p st) (h0 : 0 < n) (h1 : n < 1606938044258990275541962092341162602522202993782792835301376) : ∃ (v : Int) (st' : Sto), m__law_draw [.r p, .d (.int n)] st = .ok (.d (.int v)) st' ∧ 0 ≤ v ∧ v < n ∧ Pn p st st' := by
  obtain ⟨a, b, c, e⟩ := id h
  have hp : p < st.length := (List.getElem?_eq_some_iff.mp e).1
  have dv : ∀ i, divD (.int i) (.int n) = some (.int (i / n)) := fun i => divD_ok h0 h1
  have d64 : ∀ i, divD (.int i) (.int 64) = some (.int (i / 64)) := fun i => rfl
  unfold m__law_draw d__law_draw
  have ix0 : ixN 3 0 = some 0 := rfl
  have ix2 : ixN 3 2 = some 2 := rfl
  by_cases q : b = 1 ∧ 0 < a
  · obtain ⟨rfl, q2⟩ := q
    refine ⟨a % n, st.set p (.lst [.int (a / n), .int 1, .int c]), ?_, Int.emod_nonneg _ (by omega), Int.emod_lt_of_pos a h0, .set h _ _ _⟩
    have hl : (st.set p (.lst [.int (a / n), .int 1, .int c])).length = st.length := by simp
    simp [-o_div_i, look1_l e, q2, h0, dv, sixW, setW_l e (t := 0) (q := 0) rfl]
  · have hs : ∀ x, (st.set p (.lst [.int a, .int b, .int x]))[p]? = some (.lst [.int a, .int b, .int x]) := fun x => List.getElem?_set_self hp
    refine ⟨nxI (nxI c + 7) / 64 % n, st.set p (.lst [.int a, .int b, .int (nxI (nxI c + 7))]), ?_, Int.emod_nonneg _ (by omega), Int.emod_lt_of_pos _ h0, .set h _ _ _⟩
    simp [-o_div_i, look1_l e, q, h0, d64, sixW, setW_l e (t := 2) (q := 2) rfl, r_next, look1_l (hs _)]
end
section
variable [Tbl] [FnA]
/-! ## paths: the program's look at them -/
def isWhole : PyData → Bool
  | .int _ => true
  | _ => false
def isFT (d : PyData) (a b : Int) : Bool := match d with
  | .int i => decide (a ≤ i) && decide (i ≤ b)
  | _ => false
theorem r_is_whole (d : PyData) (st : Sto) : m_is_whole [.d d] st = .ok (.d (.bool (isWhole d))) st := by
  unfold m_is_whole d_is_whole
  cases d <;> simp [isWhole]
theorem r_is_from_to (d : PyData) (a b : Int) (st : Sto) : m_is_from_to [.d d, .d (.int a), .d (.int b)] st = .ok (.d (.bool (isFT d a b))) st := by
  unfold m_is_from_to d_is_from_to
  cases d <;> simp [isFT, isWhole, r_is_whole]
def wayB (w : Str) : Bool := ([.str "east", .str "north", .str "west", .str "south"] : List PyData).any fun y => PyData.eqv y (.str w)
theorem wayB_iff (w : Str) : wayB w = true ↔ w ∈ y_WAYS := by
  simp only [wayB, y_WAYS, List.any_cons, List.any_nil, PyData.eqv, Bool.or_false, Bool.or_eq_true, beq_iff_eq, List.mem_cons, List.not_mem_nil, or_false]
  constructor
  · rintro (h | h | h | h) <;> simp only [h, true_or, or_true]
  · rintro (h | h | h | h) <;> simp only [h, true_or, or_true]
theorem ni_ways (w : Str) : niD (.str w) w_WAYS = some (.bool (!wayB w)) := rfl
def isLeg : PyData → Bool
  | .tuple [.str w, x] => wayB w && isFT x 1 60
  | _ => false
theorem leg_no {d : PyData} (h : isaD "tuple" d = some (.bool false)) (st : Sto) : m_is_leg [.d d] st = .ok (.d (.bool false)) st := by
  unfold m_is_leg d_is_leg
  simp [h]
theorem r_is_leg (d : PyData) (st : Sto) : m_is_leg [.d d] st = .ok (.d (.bool (isLeg d))) st := by
  cases d with
  | tuple xs =>
    unfold m_is_leg d_is_leg
    match xs with
    | [] => simp [isLeg]
    | [a] => simp [isLeg]
    | [a, b] =>
      cases a with
      | str w => cases h : wayB w <;> simp [isLeg, ni_ways, r_is_from_to, w_MOST_LONG, h]
      | _ => simp [isLeg]
    | a :: b :: c :: r =>
      have h : ¬ ((r.length : Int) + 1 + 1 + 1 = 2) := by omega
      simp [isLeg, h]
  | _ => exact leg_no rfl st
theorem idx_ways {w : Str} (h : w ∈ y_WAYS) : ∃ i : Nat, idxS y_WAYS w = some i ∧ i < 4 ∧ (decide (w ∈ (["east", "west"] : List Str)) = decide (i % 2 = 0)) := by
  simp only [y_WAYS, List.mem_cons, List.not_mem_nil, or_false] at h
  rcases h with rfl | rfl | rfl | rfl
  · exact ⟨0, by decide +kernel, by decide, by decide +kernel⟩
  · exact ⟨1, by decide +kernel, by decide, by decide +kernel⟩
  · exact ⟨2, by decide +kernel, by decide, by decide +kernel⟩
  · exact ⟨3, by decide +kernel, by decide, by decide +kernel⟩
theorem r_quarter {a b : Str} {i j : Nat} (ha : idxS y_WAYS a = some i) (hb : idxS y_WAYS b = some j) (st : Sto) : m_quarter [.d (.str a), .d (.str b)] st = .ok (.d (.int (((j : Int) - i) % 4))) st := by
  unfold m_quarter d_quarter
  simp [gixW, ha, hb]
def flatS (w : Str) : Bool := decide (w ∈ (["east", "west"] : List Str))
def turnB : PyData → Bool
  | .tuple [.tuple (.str a :: _), .tuple (.str b :: _)] => flatS a != flatS b
  | _ => false
def pairsOf (legs : List PyData) : List PyData := List.zipWith pairD legs (legs.drop 1)
def isPath : PyData → Bool
  | .tuple [x, y, .tuple legs] => isFT x (-1000) 1000 && (isFT y (-1000) 1000 && (decide (1 ≤ legs.length) && (decide (legs.length ≤ 6) && (legs.all isLeg && (pairsOf legs).all turnB))))
  | _ => false
theorem isLeg_is {d : PyData} (h : isLeg d = true) : ∃ (w : Str) (x : PyData), d = .tuple [.str w, x] ∧ w ∈ y_WAYS ∧ isFT x 1 60 = true := by
  unfold isLeg at h
  split at h
  · rename_i w x
    rw [Bool.and_eq_true] at h
    exact ⟨w, x, rfl, (wayB_iff w).mp h.1, h.2⟩
  · cases h
theorem pairs_mem {legs : List PyData} {d : PyData} (h : d ∈ pairsOf legs) : ∃ a b, a ∈ legs ∧ b ∈ legs ∧ d = pairD a b := by
  unfold pairsOf at h
  obtain ⟨i, hi⟩ := List.getElem?_of_mem h
  rw [List.getElem?_zipWith] at hi
  cases ea : legs[i]? with
  | none => rw [ea] at hi; cases hi
  | some a =>
    cases eb : (legs.drop 1)[i]? with
    | none => rw [ea, eb] at hi; cases hi
    | some b =>
      rw [ea, eb] at hi
      exact ⟨a, b, List.mem_of_getElem? ea, List.mem_of_mem_drop (List.mem_of_getElem? eb), (Option.some.inj hi).symm⟩
theorem in_13 (q : Int) : inD (.int q) (.tuple [.int 1, .int 3]) = some (.bool ((1 == q) || ((3 == q) || false))) := rfl
theorem turn_ways {a b : Str} {i j : Nat} (hi : i < 4) (hj : j < 4) (ha : flatS a = decide (i % 2 = 0)) (hb : flatS b = decide (j % 2 = 0)) : (((1 : Int) == ((j : Int) - i) % 4) || (((3 : Int) == ((j : Int) - i) % 4) || false)) = (flatS a != flatS b) := by
  rw [ha, hb]
  have hi' : i = 0 ∨ i = 1 ∨ i = 2 ∨ i = 3 := by omega
  have hj' : j = 0 ∨ j = 1 ∨ j = 2 ∨ j = 3 := by omega
  rcases hi' with rfl | rfl | rfl | rfl <;> rcases hj' with rfl | rfl | rfl | rfl <;> decide
theorem path_no {d : PyData} (h : isaD "tuple" d = some (.bool false)) (st : Sto) : m_is_path [.d d] st = .ok (.d (.bool false)) st := by
  unfold m_is_path d_is_path
  simp [h]
theorem path_no2 {a b d : PyData} (h : isaD "tuple" d = some (.bool false)) (st : Sto) : m_is_path [.d (.tuple [a, b, d])] st = .ok (.d (.bool false)) st := by
  unfold m_is_path d_is_path
  simp [h]
theorem r_is_path (d : PyData) (st : Sto) : m_is_path [.d d] st = .ok (.d (.bool (isPath d))) st := by
  cases d with
  | tuple xs =>
    match xs with
    | [] => unfold m_is_path d_is_path; simp [isPath]
    | [a] => unfold m_is_path d_is_path; simp [isPath]
    | [a, b] => unfold m_is_path d_is_path; simp [isPath]
    | [a, b, c] =>
      cases c with
      | tuple legs =>
        unfold m_is_path d_is_path
        have e1 := lcL_map (g := gN 4) (c := eCall m_is_leg (aCons (eVar 4) aNil)) (env := [some (.d (.tuple [a, b, .tuple legs])), none, none, none, none]) (st := st) (f := fun x => .bool (isLeg x)) legs [] fun x hx => ⟨_, rfl, by simp [r_is_leg]⟩
        cases ha : isFT a (-1000) 1000 with
        | false => simp [isPath, r_is_from_to, w_MOST_FAR, ha]
        | true =>
        cases hb : isFT b (-1000) 1000 with
        | false => simp [isPath, r_is_from_to, w_MOST_FAR, ha, hb]
        | true =>
        by_cases h1 : 1 ≤ legs.length ∧ legs.length ≤ 6
        · have h2 : (1 : Int) ≤ legs.length := by omega
          have h3 : (legs.length : Int) ≤ 6 := by omega
          have h5 : legs.length ≤ 1000000 := by omega
          have h6 : (pairsOf legs).length ≤ 1000000 := by unfold pairsOf; simp; omega
          cases hl : legs.all isLeg with
          | false => simp [isPath, r_is_from_to, w_MOST_FAR, w_MOST_LEGS, ha, hb, h1, h2, h3, h5, hl, srcW, wipeE, e1, o_all']
          | true =>
            have e2 := lcL_map (g := gTp (gCn (gN 2) (gCn (gN 3) gNl))) (c := eOp2 inD (eCall m_quarter (aCons (eOp2 ixD (eVar 2) (eK (.int 0))) (aCons (eOp2 ixD (eVar 3) (eK (.int 0))) aNil))) (eTup (aCons (eK (.int 1)) (aCons (eK (.int 3)) aNil)))) (env := [some (.d (.tuple [a, b, .tuple legs])), none, none, none, none]) (st := st) (f := fun x => .bool (turnB x)) (pairsOf legs) [] fun x hx => by
              obtain ⟨p, q, hp, hq, rfl⟩ := pairs_mem hx
              obtain ⟨u, x1, rfl, hu, _⟩ := isLeg_is ((List.all_eq_true.mp hl) p hp)
              obtain ⟨v, x2, rfl, hv, _⟩ := isLeg_is ((List.all_eq_true.mp hl) q hq)
              obtain ⟨i, ei, hi, fi⟩ := idx_ways hu
              obtain ⟨j, ej, hj, fj⟩ := idx_ways hv
              refine ⟨_, rfl, ?_⟩
              have tw := turn_ways hi hj fi fj
              simp [pairD, turnB, r_quarter ei ej, tupW, in_13]
              simpa using tw
            have e3 : cutD legs (some 1) none = legs.drop 1 := cutD_drop legs 1
            have e4 : List.zipWith pairD legs legs.tail = pairsOf legs := by unfold pairsOf; rw [List.drop_one]
            have h7 : legs.length ≤ 1000001 := by omega
            simp [isPath, r_is_from_to, w_MOST_FAR, w_MOST_LEGS, ha, hb, h1, h2, h3, h5, hl, srcW, wipeE, e1, o_all', zip2W, e3, e4, e2, h6, h7]
        · have h2 : ¬ ((1 : Int) ≤ legs.length ∧ (legs.length : Int) ≤ 6) := by omega
          have h3 : (legs.length : Int) < 1 ∨ 6 < (legs.length : Int) := by omega
          have h4 : ∀ z, (decide (1 ≤ legs.length) && (decide (legs.length ≤ 6) && z)) = false := fun z => by
            by_cases q : 1 ≤ legs.length
            · rw [decide_eq_false (show ¬ legs.length ≤ 6 by omega)]; simp
            · rw [decide_eq_false q]; rfl
          simp [isPath, r_is_from_to, w_MOST_FAR, w_MOST_LEGS, ha, hb, h3, h4]
      | _ => exact path_no2 rfl st
    | a :: b :: c :: d :: r =>
      unfold m_is_path d_is_path
      have h : ¬ ((r.length : Int) + 1 + 1 + 1 + 1 = 3) := by omega
      simp [isPath, h]
  | _ => exact path_no rfl st
/-! ## paths by their legs -/
def wayS : Nat → Str
  | 0 => "east"
  | 1 => "north"
  | 2 => "west"
  | _ => "south"
def dx : Nat → Int
  | 0 => 1
  | 2 => -1
  | _ => 0
def dy : Nat → Int
  | 1 => 1
  | 3 => -1
  | _ => 0
abbrev Lgs := List (Nat × Int)
def lgD (l : Nat × Int) : PyData := .tuple [.str (wayS l.1), .int l.2]
def ptD (x y : Int) (lg : Lgs) : PyData := .tuple [.int x, .int y, .tuple (lg.map lgD)]
def wy (lg : Lgs) (k : Nat) : Nat := ((lg[k]?).getD (0, 0)).1
def ln (lg : Lgs) (k : Nat) : Int := ((lg[k]?).getD (0, 0)).2
def tq (lg : Lgs) (k : Nat) : Nat := (wy lg (k + 1) + 4 - wy lg k) % 4
structure Pt (x y : Int) (lg : Lgs) : Prop where
  x : -1000 ≤ x ∧ x ≤ 1000
  y : -1000 ≤ y ∧ y ≤ 1000
  n : 1 ≤ lg.length ∧ lg.length ≤ 6
  ok : ∀ l ∈ lg, l.1 < 4 ∧ 1 ≤ l.2 ∧ l.2 ≤ 60
  t : ∀ k, k + 1 < lg.length → tq lg k = 1 ∨ tq lg k = 3
theorem lg_at {lg : Lgs} {k : Nat} (h : k < lg.length) : lg[k] = (wy lg k, ln lg k) := by
  unfold wy ln
  rw [List.getElem?_eq_getElem h]
  rfl
theorem Pt.k {x y : Int} {lg : Lgs} (P : Pt x y lg) {k : Nat} (h : k < lg.length) : wy lg k < 4 ∧ 1 ≤ ln lg k ∧ ln lg k ≤ 60 := by
  have := P.ok _ (List.getElem_mem h)
  rw [lg_at h] at this
  exact this
theorem w4 {w : Nat} (h : w < 4) : w = 0 ∨ w = 1 ∨ w = 2 ∨ w = 3 := by omega
theorem idx_way {w : Nat} (h : w < 4) : idxS y_WAYS (wayS w) = some w := by
  rcases w4 h with rfl | rfl | rfl | rfl <;> decide +kernel
theorem wayB_way (w : Nat) : wayB (wayS w) = true := by
  unfold wayS; split <;> rfl
theorem flat_way {w : Nat} (h : w < 4) : flatS (wayS w) = decide (w % 2 = 0) := by
  rcases w4 h with rfl | rfl | rfl | rfl <;> decide +kernel
theorem ways_at {w : Nat} (h : w < 4) : atD [PyData.str "east", .str "north", .str "west", .str "south"] (w : Int) = some (.str (wayS w)) := by
  rcases w4 h with rfl | rfl | rfl | rfl <;> rfl
theorem Pt.isPath {x y : Int} {lg : Lgs} (P : Pt x y lg) : isPath (ptD x y lg) = true := by
  have h1 := P.x
  have h2 := P.y
  have h3 := P.n
  unfold ptD PV.isPath
  simp only [isFT, Bool.and_eq_true, decide_eq_true_eq, List.length_map, List.all_eq_true]
  refine ⟨h1, h2, h3.1, h3.2, fun d hd => ?_, fun d hd => ?_⟩
  · obtain ⟨l, hl, rfl⟩ := List.mem_map.mp hd
    have := P.ok l hl
    simp only [lgD, isLeg, wayB_way, isFT, Bool.true_and, Bool.and_eq_true, decide_eq_true_eq]
    exact this.2
  · unfold pairsOf at hd
    obtain ⟨i, hi⟩ := List.getElem?_of_mem hd
    rw [List.getElem?_zipWith] at hi
    by_cases q : i + 1 < lg.length
    · have a1 : (lg.map lgD)[i]? = some (lgD (wy lg i, ln lg i)) := by rw [List.getElem?_map, List.getElem?_eq_getElem (by omega), lg_at]; rfl
      have a2 : ((lg.map lgD).drop 1)[i]? = some (lgD (wy lg (i + 1), ln lg (i + 1))) := by rw [List.getElem?_drop, Nat.add_comm 1 i, List.getElem?_map, List.getElem?_eq_getElem q, lg_at]; rfl
      rw [a1, a2] at hi
      cases hi
      have t := P.t i q
      have k1 := (P.k (show i < lg.length by omega)).1
      have k2 := (P.k q).1
      unfold tq at t
      show (flatS (wayS (wy lg i)) != flatS (wayS (wy lg (i + 1)))) = true
      rw [flat_way k1, flat_way k2]
      rw [bne_iff_ne, ne_eq, decide_eq_decide]
      omega
    · have a2 : ((lg.map lgD).drop 1)[i]? = none := by rw [List.getElem?_eq_none]; simp; omega
      rw [a2] at hi
      cases e : (lg.map lgD)[i]? <;> rw [e] at hi <;> cases hi
end
section
variable [Tbl] [FnA]
/-! ## stones of any data -/
def valI : PyData → Int
  | .int i => i
  | _ => 0
/-- the end behind one stone, as the program looks -/
def oneP (L e : Int) : PyData → Option Int
  | .tuple [a, b] => if isFT b 1 20 = true ∧ isFT a e (L - valI b) = true then some (valI a + valI b) else none
  | _ => none
/-- as the law looks -/
def oneL (L e : Int) : PyData → Option Int
  | .tuple [a, b] => if isFT a e L = true ∧ isFT b 1 20 = true then some (valI a + valI b) else none
  | _ => none
def runO (f : Int → PyData → Option Int) : Int → List PyData → Option Int
  | e, [] => some e
  | e, d :: r => match f e d with
    | some e' => runO f e' r
    | none => none
def isSt (L : Int) : PyData → Bool
  | .tuple xs => decide (1 ≤ xs.length) && (decide (xs.length ≤ 12) && (runO (oneP L) 0 xs).isSome)
  | _ => false
def endL (L : Int) : Option Int → Bool
  | some e => decide (e ≤ L)
  | none => false
theorem ft_some {d : PyData} {a b : Int} (h : isFT d a b = true) : d = .int (valI d) ∧ a ≤ valI d ∧ valI d ≤ b := by
  cases d with
  | int i =>
    simp only [isFT, Bool.and_eq_true, decide_eq_true_eq] at h
    exact ⟨rfl, h⟩
  | _ => cases h
theorem ft_i (i a b : Int) : isFT (.int i) a b = decide (a ≤ i ∧ i ≤ b) := by
  simp only [isFT]
  by_cases h1 : a ≤ i <;> by_cases h2 : i ≤ b <;> simp [h1, h2]
theorem oneL_up {L e e' : Int} {d : PyData} (h : oneL L e d = some e') : e < e' := by
  unfold oneL at h
  split at h
  · split at h
    · rename_i a b q
      obtain ⟨_, h1, _⟩ := ft_some q.1
      obtain ⟨_, h2, _⟩ := ft_some q.2
      cases h
      omega
    · cases h
  · cases h
theorem runL_up {L : Int} : ∀ (xs : List PyData) (e e' : Int), runO (oneL L) e xs = some e' → e ≤ e'
  | [], e, e', h => by cases h; exact Int.le_refl _
  | d :: r, e, e', h => by
    unfold runO at h
    split at h
    · rename_i e1 q
      have := oneL_up q
      have := runL_up r e1 e' h
      omega
    · cases h
theorem oneP_of {L e e' : Int} {d : PyData} (h : oneL L e d = some e') (hl : e' ≤ L) : oneP L e d = some e' := by
  unfold oneL at h
  split at h
  · split at h
    · rename_i a b q
      cases h
      obtain ⟨ea, h1, _⟩ := ft_some q.1
      unfold oneP
      refine if_pos ⟨q.2, ?_⟩
      rw [ea, ft_i]
      exact decide_eq_true (by omega)
    · cases h
  · cases h
theorem oneL_of {L e e' : Int} {d : PyData} (h : oneP L e d = some e') : oneL L e d = some e' ∧ e' ≤ L := by
  unfold oneP at h
  split at h
  · split at h
    · rename_i a b q
      cases h
      obtain ⟨eb, h1, _⟩ := ft_some q.1
      obtain ⟨ea, h2, h3⟩ := ft_some q.2
      refine ⟨?_, by omega⟩
      unfold oneL
      refine if_pos ⟨?_, q.1⟩
      rw [ea, ft_i]
      exact decide_eq_true (by omega)
    · cases h
  · cases h
/-- both looks tell the same -/
theorem run_same {L : Int} : ∀ (xs : List PyData) (e : Int), e ≤ L → (runO (oneP L) e xs).isSome = endL L (runO (oneL L) e xs)
  | [], e, h => by simp [runO, endL, h]
  | d :: r, e, h => by
    unfold runO
    cases hp : oneP L e d with
    | some e1 =>
      obtain ⟨q1, q2⟩ := oneL_of hp
      rw [q1]
      exact run_same r e1 q2
    | none =>
      cases hl : oneL L e d with
      | none => rfl
      | some e1 =>
        have gt : ¬ e1 ≤ L := fun z => by rw [oneP_of hl z] at hp; cases hp
        show false = endL L (runO (oneL L) e1 r)
        cases hr : runO (oneL L) e1 r with
        | none => rfl
        | some e2 =>
          have := runL_up r e1 e2 hr
          show false = decide (e2 ≤ L)
          rw [decide_eq_false (by omega)]
end
section
variable [Tbl] [FnA]
/-! ## stones of any data: the walks -/
theorem ap_no (v0 : Option Wv) (L e : Int) {d : PyData} (h : isaD "tuple" d = some (.bool false)) (st : Sto) : d_are_stones_l1 [v0, some (.d (.int (L))), some (.d (.int (e))), some (.d d)] st = .rt (.w (.d (.bool false))) st := by
  unfold d_are_stones_l1
  simp -implicitDefEqProofs [h]
theorem ap_turn (v0 : Option Wv) (L e : Int) (d : PyData) (st : Sto) : d_are_stones_l1 [v0, some (.d (.int (L))), some (.d (.int (e))), some (.d d)] st = match oneP L e d with
    | some e' => .nx [v0, some (.d (.int (L))), some (.d (.int (e'))), none] st
    | none => .rt (.w (.d (.bool false))) st := by
  cases d with
  | tuple xs =>
    unfold d_are_stones_l1
    match xs with
    | [] => simp -implicitDefEqProofs [oneP]
    | [a] => simp -implicitDefEqProofs [oneP]
    | [a, b] =>
      have q := fun st => r_is_from_to b 1 20 st
      cases hb : isFT b 1 20 with
      | false =>
        rw [hb] at q
        simp -implicitDefEqProofs [oneP, w_MOST_STONE, q, hb]
      | true =>
        obtain ⟨eb, _⟩ := ft_some hb
        obtain ⟨y, rfl⟩ : ∃ y, b = .int y := ⟨_, eb⟩
        clear eb
        rw [hb] at q
        have q2 := fun st => r_is_from_to a e (L - y) st
        cases ha : isFT a e (L - y) with
        | false =>
          rw [ha] at q2
          have o : oneP L e (.tuple [a, .int y]) = none := by
            show (if isFT (.int y) 1 20 = true ∧ isFT a e (L - y) = true then some (valI a + y) else none) = none
            rw [if_neg (fun z => by rw [ha] at z; exact Bool.false_ne_true z.2)]
          rw [o]
          simp -implicitDefEqProofs [w_MOST_STONE, q, q2]
        | true =>
          obtain ⟨ea, _⟩ := ft_some ha
          obtain ⟨x, rfl⟩ : ∃ x, a = .int x := ⟨_, ea⟩
          rw [ha] at q2
          have o : oneP L e (.tuple [.int x, .int y]) = some (x + y) := by
            show (if isFT (.int y) 1 20 = true ∧ isFT (.int x) e (L - y) = true then some (x + y) else none) = _
            rw [if_pos ⟨hb, ha⟩]
          rw [o]
          simp -implicitDefEqProofs [w_MOST_STONE, q, q2, wipeE]
    | a :: b :: c :: r =>
      have h : ¬ ((r.length : Int) + 1 + 1 + 1 = 2) := by omega
      simp -implicitDefEqProofs [oneP, h]
  | _ => exact ap_no v0 L e rfl st
theorem r_law_is (d : PyData) (a b : Int) (st : Sto) : m__law_is [.d d, (.d (.int (a))), (.d (.int (b)))] st = .ok (.d (.bool (isFT d a b))) st := by
  unfold m__law_is d__law_is
  cases d <;> simp [isFT]
theorem al_no (v0 : Option Wv) (L e : Int) {d : PyData} (h : isaD "tuple" d = some (.bool false)) (st : Sto) : d__law_are_stones_l1 [v0, some (.d (.int (L))), some (.d (.int (e))), some (.d d)] st = .rt (.w (.d (.bool false))) st := by
  unfold d__law_are_stones_l1
  simp -implicitDefEqProofs [h]
theorem al_turn (v0 : Option Wv) (L e : Int) (d : PyData) (st : Sto) : d__law_are_stones_l1 [v0, some (.d (.int (L))), some (.d (.int (e))), some (.d d)] st = match oneL L e d with
    | some e' => .nx [v0, some (.d (.int (L))), some (.d (.int (e'))), none] st
    | none => .rt (.w (.d (.bool false))) st := by
  cases d with
  | tuple xs =>
    unfold d__law_are_stones_l1
    match xs with
    | [] => simp -implicitDefEqProofs [oneL]
    | [a] => simp -implicitDefEqProofs [oneL]
    | [a, b] =>
      have q := fun st => r_law_is a e L st
      have q2 := fun st => r_law_is b 1 20 st
      cases ha : isFT a e L with
      | false =>
        rw [ha] at q
        simp -implicitDefEqProofs [oneL, q, ha]
      | true =>
        rw [ha] at q
        obtain ⟨ea, _⟩ := ft_some ha
        obtain ⟨x, rfl⟩ : ∃ x, a = .int x := ⟨_, ea⟩
        clear ea
        cases hb : isFT b 1 20 with
        | false =>
          rw [hb] at q2
          have o : oneL L e (.tuple [.int x, b]) = none := by
            show (if isFT (.int x) e L = true ∧ isFT b 1 20 = true then some (x + valI b) else none) = none
            rw [if_neg (fun z => by rw [hb] at z; exact Bool.false_ne_true z.2)]
          rw [o]
          simp -implicitDefEqProofs [q, q2]
        | true =>
          obtain ⟨eb, _⟩ := ft_some hb
          obtain ⟨y, rfl⟩ : ∃ y, b = .int y := ⟨_, eb⟩
          rw [hb] at q2
          have o : oneL L e (.tuple [.int x, .int y]) = some (x + y) := by
            show (if isFT (.int x) e L = true ∧ isFT (.int y) 1 20 = true then some (x + y) else none) = _
            rw [if_pos ⟨ha, hb⟩]
          rw [o]
          simp -implicitDefEqProofs [q, q2, wipeE]
    | a :: b :: c :: r =>
      have h : ¬ ((r.length : Int) + 1 + 1 + 1 = 2) := by omega
      simp -implicitDefEqProofs [oneL, h]
  | _ => exact al_no v0 L e rfl st
theorem run_loop {b : En → Sto → SR} {f : Int → PyData → Option Int} {v0 : Option Wv} {L : Int} {st : Sto} (turn : ∀ e d, b [v0, some (.d (.int (L))), some (.d (.int (e))), some (.d d)] st = match f e d with
    | some e' => .nx [v0, some (.d (.int (L))), some (.d (.int (e'))), none] st
    | none => .rt (.w (.d (.bool false))) st) : ∀ (xs : List PyData) (e : Int), forL (gN 3) b [] xs [v0, some (.d (.int (L))), some (.d (.int (e))), none] st = match runO f e xs with
    | some e' => .nx [v0, some (.d (.int (L))), some (.d (.int (e'))), none] st
    | none => .rt (.w (.d (.bool false))) st
  | [], e => by rw [forL_nil]; rfl
  | d :: r, e => by
    have eg : (gN 3) (.d d) [v0, some (.d (.int (L))), some (.d (.int (e))), none] = some [v0, some (.d (.int (L))), some (.d (.int (e))), some (.d d)] := rfl
    rw [forL_cons, eg]
    dsimp only
    rw [turn e d]
    conv => rhs; unfold runO
    cases f e d with
    | none => rfl
    | some e' => exact run_loop turn r e'
theorem r_are_stonesD_no (L : Int) {d : PyData} (h : isaD "tuple" d = some (.bool false)) (st : Sto) : m_are_stones [.d d, (.d (.int (L)))] st = .ok (.d (.bool false)) st := by
  unfold m_are_stones d_are_stones
  simp -implicitDefEqProofs [h]
theorem r_are_stonesD (L : Int) (d : PyData) (st : Sto) : m_are_stones [.d d, (.d (.int (L)))] st = .ok (.d (.bool (isSt L d))) st := by
  cases d with
  | tuple xs =>
    unfold m_are_stones d_are_stones
    have lp := run_loop (b := d_are_stones_l1) (f := oneP L) (v0 := some (.d (.tuple xs))) (L := L) (st := st) (fun e d => ap_turn _ L e d st) xs 0
    by_cases h1 : 1 ≤ xs.length
    · by_cases h2 : xs.length ≤ 12
      · have k1 : (1 : Int) ≤ xs.length := by omega
        have k2 : (xs.length : Int) ≤ 12 := by omega
        have e0 : isSt L (.tuple xs) = (runO (oneP L) 0 xs).isSome := by simp [isSt, h1, h2]
        rw [e0]
        cases hr : runO (oneP L) 0 xs with
        | none =>
          rw [hr] at lp
          simp -implicitDefEqProofs [w_MOST_STONES, k1, k2, srcW_dt, lp, -forL_cons]
        | some e' =>
          rw [hr] at lp
          simp -implicitDefEqProofs [w_MOST_STONES, k1, k2, srcW_dt, lp, -forL_cons]
      · have k1 : (1 : Int) ≤ xs.length := by omega
        have k2 : ¬ (xs.length : Int) ≤ 12 := by omega
        simp -implicitDefEqProofs [w_MOST_STONES, k1, k2, isSt, h2]
    · have k1 : ¬ (1 : Int) ≤ xs.length := by omega
      simp -implicitDefEqProofs [w_MOST_STONES, k1, isSt, h1]
  | _ => exact r_are_stonesD_no L rfl st
theorem r_law_are_stones_no (L : Int) {d : PyData} (h : isaD "tuple" d = some (.bool false)) (st : Sto) : m__law_are_stones [.d d, (.d (.int (L)))] st = .ok (.d (.bool false)) st := by
  unfold m__law_are_stones d__law_are_stones
  simp -implicitDefEqProofs [h]
theorem r_law_are_stones {L : Int} (hL : 0 ≤ L) (d : PyData) (st : Sto) : m__law_are_stones [.d d, (.d (.int (L)))] st = .ok (.d (.bool (isSt L d))) st := by
  cases d with
  | tuple xs =>
    unfold m__law_are_stones d__law_are_stones
    have lp := run_loop (b := d__law_are_stones_l1) (f := oneL L) (v0 := some (.d (.tuple xs))) (L := L) (st := st) (fun e d => al_turn _ L e d st) xs 0
    by_cases h1 : 1 ≤ xs.length
    · by_cases h2 : xs.length ≤ 12
      · have k1 : (1 : Int) ≤ xs.length := by omega
        have k2 : (xs.length : Int) ≤ 12 := by omega
        have e0 : isSt L (.tuple xs) = endL L (runO (oneL L) 0 xs) := by rw [← run_same xs 0 hL]; simp [isSt, h1, h2]
        rw [e0]
        cases hr : runO (oneL L) 0 xs with
        | none =>
          rw [hr] at lp
          simp -implicitDefEqProofs [endL, k1, k2, srcW_dt, lp, -forL_cons]
        | some e' =>
          rw [hr] at lp
          simp -implicitDefEqProofs [endL, k1, k2, srcW_dt, lp, -forL_cons]
      · have k1 : (1 : Int) ≤ xs.length := by omega
        have k2 : ¬ (xs.length : Int) ≤ 12 := by omega
        simp -implicitDefEqProofs [k1, k2, isSt, h2]
    · have k1 : ¬ (1 : Int) ≤ xs.length := by omega
      simp -implicitDefEqProofs [k1, isSt, h1]
  | _ => exact r_law_are_stones_no L rfl st
end
section
variable [Tbl] [FnA]
/-! ## a path drawn -/
theorem wy_lt {lg r : Lgs} {k : Nat} (h : k < lg.length) : wy (lg ++ r) k = wy lg k := by unfold wy; rw [List.getElem?_append_left h]
theorem wy_at {lg : Lgs} {p : Nat × Int} : wy (lg ++ [p]) lg.length = p.1 := by unfold wy; simp
def PathI (p n : Nat) (st : Sto) (v1 : Int) (v2 : Wv) (k : Nat) (env : En) (st' : Sto) : Prop := ∃ (v : Nat) (lg : Lgs) (z : Option Wv),
  env = [some (.r p), some (.d (.int v1)), some v2, some (.d (.list [.str "east", .str "north", .str "west", .str "south"])), some (.d (.int (v : Int))), some (.r n), z] ∧ v < 4 ∧
  st'[n]? = some (.lst (lg.map lgD)) ∧ lg.length = k ∧ (∀ l ∈ lg, l.1 < 4 ∧ 1 ≤ l.2 ∧ l.2 ≤ 60) ∧ (∀ j, j + 1 < k → tq lg j = 1 ∨ tq lg j = 3) ∧ (∀ j, j + 1 = k → (v + 4 - wy lg j) % 4 = 1 ∨ (v + 4 - wy lg j) % 4 = 3) ∧ Px p n st st'
theorem path_turn {p n : Nat} {st : Sto} {v1 : Int} {v2 : Wv} (hp : p < n) (h1 : 0 ≤ v1) (h2 : v1 < 3) {k : Nat} (hk : k < 6) {env : En} {st' : Sto} (x : PyData) (h : PathI p n st v1 v2 k env st') :
    ∃ env1 env2 st2, gN 6 (.d x) env = some env1 ∧ d__law_path_l1 env1 st' = .nx env2 st2 ∧ PathI p n st v1 v2 (k + 1) env2 st2 := by
  obtain ⟨v, lg, z, rfl, a, e, hl, ok, ch, nx, px⟩ := h
  have ew := ways_at a
  obtain ⟨m, hm, em⟩ := atD_mem (xs := [PyData.int 6, .int 20, .int 60]) h1 (by simpa using h2)
  obtain ⟨m, rfl, m1, m2⟩ : ∃ u, m = .int u ∧ 0 < u ∧ u ≤ 60 := by
    simp at hm
    rcases hm with rfl | rfl | rfl <;> exact ⟨_, rfl, by decide, by decide⟩
  obtain ⟨u1, st1, e1, a1, b1, c1⟩ := r_draw m px.pen m1 (by omega)
  have n1 : st1[n]? = some (.lst (lg.map lgD)) := by rw [c1.sm n (by omega)]; exact e
  have hn : n < st1.length := (List.getElem?_eq_some_iff.mp n1).1
  have el : lg.map lgD ++ [.tuple [.str (wayS v), .int (1 + u1)]] = (lg ++ [(v, 1 + u1)]).map lgD := by rw [List.map_append]; rfl
  have px1 := (px.pn c1).put (i := n) (Nat.le_refl _) hp (.lst ((lg ++ [(v, 1 + u1)]).map lgD))
  obtain ⟨u2, st2, e2, a2, b2, c2⟩ := r_draw 2 px1.pen (by decide) (by decide)
  have ap := appW_l n1 (by rw [List.length_map]; omega) (.tuple [.str (wayS v), .int (1 + u1)])
  rw [el] at ap
  obtain ⟨q, hq⟩ : ∃ q : Nat, ((v : Int) + 1 + 2 * u2) % 4 = (q : Int) := ⟨(((v : Int) + 1 + 2 * u2) % 4).toNat, by omega⟩
  refine ⟨_, [some (.r p), some (.d (.int v1)), some v2, some (.d (.list [.str "east", .str "north", .str "west", .str "south"])), some (.d (.int (q : Int))), some (.r n), some (.d x)], st2, rfl, ?_, ?_⟩
  · have il := isLst_l e
    generalize (lg ++ [(v, 1 + u1)]).map lgD = F at *
    unfold d__law_path_l1
    simp [il, ew, em, lstW, tupW, e1, ap, e2, big_l (i := 2) (by decide) (by decide), hq]
  · refine ⟨q, lg ++ [(v, 1 + u1)], some (.d x), rfl, by omega, ?_, by simp [hl], ?_, fun j hj => ?_, fun j hj => ?_, px1.pn c2⟩
    · rw [c2.sm n (by omega)]
      exact List.getElem?_set_self hn
    · intro l hl
      rcases List.mem_append.mp hl with q | q
      · exact ok l q
      · rw [List.mem_singleton.mp q]
        exact ⟨a, by omega, by omega⟩
    · unfold tq
      by_cases q2 : j + 1 < k
      · rw [wy_lt (by omega), wy_lt (by omega)]
        exact ch j q2
      · have ej : j + 1 = lg.length := by omega
        rw [ej, wy_at, wy_lt (by omega)]
        exact nx j (by omega)
    · have ej : j = lg.length := by omega
      rw [ej, wy_at]
      have : u2 = 0 ∨ u2 = 1 := by omega
      show (q + 4 - v) % 4 = 1 ∨ (q + 4 - v) % 4 = 3
      omega
theorem r_path {p : Nat} {st : Sto} (h : Pen p st) : ∃ (x y : Int) (lg : Lgs) (st' : Sto), m__law_path [.r p] st = .ok (.d (ptD x y lg)) st' ∧ (-30 ≤ x ∧ x ≤ 30 ∧ -30 ≤ y ∧ y ≤ 30) ∧ Pt x y lg ∧ Pn p st st' := by
  have hp := h.lt
  unfold m__law_path d__law_path
  obtain ⟨v1, st1, e1, a1, b1, c1⟩ := r_draw 3 h (by decide) (by decide)
  obtain ⟨v2, st2, e2, a2, b2, c2⟩ := r_draw 6 c1.pen (by decide) (by decide)
  obtain ⟨v3, st3, e3, a3, b3, c3⟩ := r_draw 4 c2.pen (by decide) (by decide)
  obtain ⟨v3, rfl⟩ := Int.eq_ofNat_of_zero_le a3
  have c13 := (c1.trans c2).trans c3
  have px := c13.px.app [.lst []]
  obtain ⟨env, st4, e4, v, lg, z, rfl, _, el, hl, ok, ch, _, px4⟩ := forL_goI (g := gN 6) (b := d__law_path_l1) (PathI p st.length st v1 (.d (.int (1 + v2)))) (rangeD 0 (1 + v2).toNat) 0 (fun i x hx env st' hI => by
    have := (rangeD_get hx).1
    rw [Nat.zero_add] at hI ⊢
    exact path_turn hp a1 b1 (by omega) x hI) [some (.r p), some (.d (.int v1)), some (.d (.int (1 + v2))), some (.d (.list [.str "east", .str "north", .str "west", .str "south"])), some (.d (.int (v3 : Int))), some (.r st3.length), none] (st3 ++ [.lst []])
    ⟨v3, [], none, by rw [c13.len], by omega, by rw [← c13.len]; simp, rfl, fun l hl => absurd hl List.not_mem_nil, fun j hj => by omega, fun j hj => by omega, px⟩
  obtain ⟨v5, st5, e5, a5, b5, c5⟩ := r_draw 61 px4.pen (by decide) (by decide)
  obtain ⟨v6, st6, e6, a6, b6, c6⟩ := r_draw 61 c5.pen (by decide) (by decide)
  have c56 := c5.trans c6
  have el6 : st6[st.length]? = some (.lst (lg.map lgD)) := by rw [c56.sm _ (by omega)]; exact el
  rw [rangeD_len, Nat.zero_add] at hl ch
  refine ⟨v5 - 30, v6 - 30, lg, st6.take st.length, ?_, by omega, ⟨by omega, by omega, by omega, ok, fun k hk => ch k (by omega)⟩, (px4.pn c56).back hp⟩
  unfold ptD
  simp [e1, e2, e3, lstW, newW, rg1_ok (i := 1 + v2) _ (by omega) (by omega), e4, e5, e6, look_l el6, looks, tupW]
/-! ## the program's looks -/
theorem r_quart {i j : Nat} (hi : i < 4) (hj : j < 4) (st : Sto) : m_quarter [.d (.str (wayS i)), .d (.str (wayS j))] st = .ok (.d (.int (((j + 4 - i) % 4 : Nat) : Int))) st := by
  rw [r_quarter (idx_way hi) (idx_way hj), show ((j : Int) - i) % 4 = (((j + 4 - i) % 4 : Nat) : Int) from by omega]
theorem steps_at {w : Nat} (h : w < 4) : ixD w_STEPS (.int (w : Int)) = some (.tuple [.int (dx w), .int (dy w)]) := by
  rcases w4 h with rfl | rfl | rfl | rfl <;> rfl
theorem r_gone {w : Nat} (hw : w < 4) {f : Int} (hf : 0 ≤ f ∧ f < 1000000) (x y : Int) (st : Sto) : m_gone [.d (.int x), .d (.int y), .d (.str (wayS w)), .d (.int f)] st = .ok (.d (.tuple [.int (x + f * dx w), .int (y + f * dy w)])) st := by
  have e := idx_way hw
  have s := steps_at hw
  have b := fun j => big_l (i := f) (j := j) hf.1 (by omega)
  unfold m_gone d_gone
  simp [gixW, e, s, b, tupW]
def px (lg : Lgs) (x : Int) : Nat → Int
  | 0 => x
  | k + 1 => px lg x k + ln lg k * dx (wy lg k)
def py (lg : Lgs) (y : Int) : Nat → Int
  | 0 => y
  | k + 1 => py lg y k + ln lg k * dy (wy lg k)
def fr (lg : Lgs) : Nat → Int
  | 0 => 0
  | k + 1 => fr lg k + ln lg k
def ppD (lg : Lgs) (x y : Int) (k : Nat) : PyData := .tuple [.int (px lg x k), .int (py lg y k)]
theorem rng_succ {α : Type} (f : Nat → α) (i : Nat) : (List.range (i + 1)).map f = (List.range i).map f ++ [f i] := by rw [List.range_succ, List.map_append]; rfl
theorem cut2 (x y z : PyData) : cutD [x, y, z] none (some 2) = [x, y] := rfl
theorem lg_get {lg : Lgs} {i : Nat} {d : PyData} (h : (lg.map lgD)[i]? = some d) : i < lg.length ∧ d = .tuple [.str (wayS (wy lg i)), .int (ln lg i)] := by
  rw [List.getElem?_map] at h
  obtain ⟨l, hl, rfl⟩ := Option.map_eq_some_iff.mp h
  obtain ⟨hi, rfl⟩ := List.getElem?_eq_some_iff.mp hl
  exact ⟨hi, by rw [lg_at hi]; rfl⟩
theorem r_leg_points {x y : Int} {lg : Lgs} (P : Pt x y lg) (st : Sto) : m_leg_points [.d (ptD x y lg)] st = .ok (.d (.list ((List.range (lg.length + 1)).map (ppD lg x y)))) st := by
  have hn := P.n
  obtain ⟨env, st1, e1, x2, x3, rfl, rfl⟩ := forL_goI (g := gTp (gCn (gN 2) (gCn (gN 3) gNl))) (b := d_leg_points_l1) (fun i env st' => ∃ x2 x3, env = [some (.d (ptD x y lg)), some (.r st.length), x2, x3] ∧ st' = st ++ [.lst ((List.range (i + 1)).map (ppD lg x y))]) (lg.map lgD) 0 (fun i d hd env st' hI => by
    rw [Nat.zero_add] at hI ⊢
    obtain ⟨x2, x3, rfl, rfl⟩ := hI
    obtain ⟨hi, rfl⟩ := lg_get hd
    have hk := P.k hi
    have gt : (st ++ [Ob.lst ((List.range (i + 1)).map (ppD lg x y))])[st.length]? = some (.lst ((List.range (i + 1)).map (ppD lg x y))) := by simp
    have il := isLst_l gt
    have lk := look1_l gt
    have la : atD ((List.range (i + 1)).map (ppD lg x y)) (-1) = some (.tuple [.int (px lg x i), .int (py lg y i)]) := by rw [rng_succ]; exact atD_last _ _
    have go := fun st => r_gone hk.1 (f := ln lg i) (by omega) (px lg x i) (py lg y i) st
    have ap := appW_l gt (by rw [List.length_map, List.length_range]; omega) (ppD lg x y (i + 1))
    rw [← rng_succ] at ap
    refine ⟨_, _, _, rfl, ?_, some (.d (.str (wayS (wy lg i)))), some (.d (.int (ln lg i))), rfl, rfl⟩
    have ep : PyData.tuple [.int (px lg x i + ln lg i * dx (wy lg i)), .int (py lg y i + ln lg i * dy (wy lg i))] = ppD lg x y (i + 1) := rfl
    generalize (List.range (i + 1)).map (ppD lg x y) = R at *
    generalize (List.range (i + 1 + 1)).map (ppD lg x y) = R2 at *
    unfold d_leg_points_l1
    simp -implicitDefEqProofs [il, lk, la, go, ep, ap]) [some (.d (ptD x y lg)), some (.r st.length), none, none] (st ++ [.lst [ppD lg x y 0]]) ⟨none, none, rfl, rfl⟩
  rw [List.length_map, Nat.zero_add] at e1
  have e0 : PyData.tuple [.int x, .int y] = ppD lg x y 0 := rfl
  have gt : (st ++ [Ob.lst ((List.range (lg.length + 1)).map (ppD lg x y))])[st.length]? = some (.lst ((List.range (lg.length + 1)).map (ppD lg x y))) := by simp
  generalize (List.range (lg.length + 1)).map (ppD lg x y) = R at *
  unfold ptD at *
  unfold m_leg_points d_leg_points
  simp -implicitDefEqProofs [cut2, newW, e0, srcW_dt, e1, x_end_fr (Nat.le_refl _) gt]
end
section
variable [Tbl] [FnA]
/-! ## sides, lengths, points, bends -/
def lf (lg : Lgs) (k : Nat) : Bool := decide (tq lg k = 1)
def sdD (b : Bool) : PyData := .str (if b = true then "left" else "right")
theorem pairs_eq (lg : Lgs) : pairsOf (lg.map lgD) = (List.range (lg.length - 1)).map fun k => pairD (lgD (wy lg k, ln lg k)) (lgD (wy lg (k + 1), ln lg (k + 1))) := by
  refine List.ext_getElem (by unfold pairsOf; simp) fun i h1 h2 => ?_
  have hi : i < lg.length - 1 := by simpa using h2
  unfold pairsOf at h1 ⊢
  rw [List.getElem_zipWith, List.getElem_map, List.getElem_drop, List.getElem_map, List.getElem_map, List.getElem_range]
  rw [lg_at (show i < lg.length by omega), lg_at (show 1 + i < lg.length by omega), Nat.add_comm 1 i]
def qtD : PyData → PyData
  | .tuple [.tuple (.str a :: _), .tuple (.str b :: _)] => match idxS y_WAYS a, idxS y_WAYS b with
    | some i, some j => .int (((j + 4 - i) % 4 : Nat) : Int)
    | _, _ => .none
  | _ => .none
theorem qtD_at {lg : Lgs} {x y : Int} (P : Pt x y lg) {k : Nat} (h : k + 1 < lg.length) : qtD (pairD (lgD (wy lg k, ln lg k)) (lgD (wy lg (k + 1), ln lg (k + 1)))) = .int (tq lg k : Nat) := by
  have k1 := (P.k (show k < lg.length by omega)).1
  have k2 := (P.k h).1
  show (match idxS y_WAYS (wayS (wy lg k)), idxS y_WAYS (wayS (wy lg (k + 1))) with | some i, some j => PyData.int (((j + 4 - i) % 4 : Nat) : Int) | _, _ => .none) = _
  rw [idx_way k1, idx_way k2]
  rfl
def turnD : PyData → PyData
  | .int i => if i = 1 then .str "left" else .str "right"
  | _ => .none
theorem r_bend_sides {x y : Int} {lg : Lgs} (P : Pt x y lg) (st : Sto) : m_bend_sides [.d (ptD x y lg)] st = .ok (.d (.list ((List.range (lg.length - 1)).map fun k => sdD (lf lg k)))) st := by
  have hn := P.n
  have e1 := lcL_map (g := gTp (gCn (gN 3) (gCn (gN 4) gNl))) (c := eCall m_quarter (aCons (eOp2 ixD (eVar 3) (eK (.int 0))) (aCons (eOp2 ixD (eVar 4) (eK (.int 0))) aNil))) (env := [some (.d (ptD x y lg)), none, none, none, none, none]) (st := st) (f := qtD) (pairsOf (lg.map lgD)) [] fun d hd => by
    rw [pairs_eq] at hd
    obtain ⟨k, hk, rfl⟩ := List.mem_map.mp hd
    have hk2 : k + 1 < lg.length := by have := List.mem_range.mp hk; omega
    refine ⟨_, rfl, ?_⟩
    rw [qtD_at P hk2]
    have q := fun st => r_quart (P.k (show k < lg.length by omega)).1 (P.k hk2).1 st
    unfold tq
    simp -implicitDefEqProofs [pairD, lgD, q]
  have e2 := lcL_map (g := gN 5) (c := eIf (tBl (eOp2 eqD (eVar 5) (eK (.int 1)))) (eK (.str "left")) (eK (.str "right"))) (env := [some (.d (ptD x y lg)), some (.d (.list ((pairsOf (lg.map lgD)).map qtD))), none, none, none, none]) (st := st) (f := turnD) ((pairsOf (lg.map lgD)).map qtD) [] fun d hd => by
    rw [pairs_eq, List.map_map] at hd
    obtain ⟨k, hk, rfl⟩ := List.mem_map.mp hd
    have hk2 : k + 1 < lg.length := by have := List.mem_range.mp hk; omega
    refine ⟨_, rfl, ?_⟩
    show (eIf (tBl (eOp2 eqD (eVar 5) (eK (.int 1)))) (eK (.str "left")) (eK (.str "right"))) [some (.d (ptD x y lg)), some (.d (.list ((pairsOf (lg.map lgD)).map qtD))), none, none, none, some (.d (qtD (pairD (lgD (wy lg k, ln lg k)) (lgD (wy lg (k + 1), ln lg (k + 1))))))] st = _
    simp only [Function.comp_apply]
    rw [qtD_at P hk2]
    by_cases z : (tq lg k : Int) = 1
    · simp -implicitDefEqProofs [turnD, z]
    · simp -implicitDefEqProofs [turnD, z]
  have e3 : ((pairsOf (lg.map lgD)).map qtD).map turnD = (List.range (lg.length - 1)).map fun k => sdD (lf lg k) := by
    rw [pairs_eq, List.map_map, List.map_map]
    refine List.map_congr_left fun k hk => ?_
    have hk2 : k + 1 < lg.length := by have := List.mem_range.mp hk; omega
    show turnD (qtD _) = _
    rw [qtD_at P hk2]
    show (if (tq lg k : Int) = 1 then PyData.str "left" else .str "right") = _
    unfold sdD lf
    by_cases z : tq lg k = 1
    · rw [if_pos (by omega), decide_eq_true z]; rfl
    · rw [if_neg (by omega), decide_eq_false z]; rfl
  rw [e3, List.nil_append] at e2
  rw [List.nil_append] at e1
  have c1 : cutD (lg.map lgD) (some 1) none = (lg.map lgD).drop 1 := cutD_drop _ 1
  have z1 : List.zipWith pairD (lg.map lgD) ((lg.map lgD).drop 1) = pairsOf (lg.map lgD) := rfl
  have z2 : List.zipWith pairD (lg.map lgD) (lg.map lgD).tail = pairsOf (lg.map lgD) := by unfold pairsOf; rw [List.drop_one]
  have l1 : (pairsOf (lg.map lgD)).length ≤ 1000000 := by rw [pairs_eq]; simp; omega
  have l2 : lg.length ≤ 1000001 := by omega
  generalize (List.range (lg.length - 1)).map (fun k => sdD (lf lg k)) = R at *
  generalize (pairsOf (lg.map lgD)) = Q at *
  unfold ptD at *
  unfold m_bend_sides d_bend_sides
  simp -implicitDefEqProofs [zip2W, c1, z1, z2, l1, l2, wipeE, e1, srcW_dl, e2, -List.map_map, -List.map_drop, -List.map_tail]
end
section
variable [Tbl] [FnA]
theorem rng_get {α : Type} {f : Nat → α} {n i : Nat} {d : α} (h : ((List.range n).map f)[i]? = some d) : i < n ∧ d = f i := by
  rw [List.getElem?_map] at h
  obtain ⟨k, hk, rfl⟩ := Option.map_eq_some_iff.mp h
  obtain ⟨hi, rfl⟩ := List.getElem?_eq_some_iff.mp hk
  exact ⟨by simpa using hi, by simp⟩
end
section
variable [Tbl] [FnA]
/-! ## strips -/
def ah (lg : Lgs) (W : Int) : Nat → Int
  | 0 => 0
  | k + 1 => if lf lg k = true then W else 0
def mo (lg : Lgs) (W : Int) (k : Nat) : Int := if k + 1 < lg.length then (if lf lg k = true then 0 else W) else 0
def he (lg : Lgs) (W : Int) (k : Nat) : Int := ln lg k + mo lg W k - ah lg W k
def sx (lg : Lgs) (x W : Int) (k : Nat) : Int := px lg x k + ah lg W k * dx (wy lg k)
def sy (lg : Lgs) (y W : Int) (k : Nat) : Int := py lg y k + ah lg W k * dy (wy lg k)
def stD (lg : Lgs) (x y W : Int) (k : Nat) : PyData := .tuple [.int (sx lg x W k), .int (sy lg y W k), .str (wayS (wy lg k)), .int (he lg W k)]
theorem sd_left (b : Bool) : eqD (sdD b) (.str "left") = some (.bool b) := by cases b <;> rfl
theorem sd_right (b : Bool) : eqD (sdD b) (.str "right") = some (.bool (!b)) := by cases b <;> rfl
theorem ah_b {lg : Lgs} {W : Int} (hW : 1 ≤ W ∧ W ≤ 9) (k : Nat) : 0 ≤ ah lg W k ∧ ah lg W k ≤ 9 := by
  cases k with
  | zero => simp [ah]
  | succ k => unfold ah; split <;> omega
section
variable {x y : Int} {lg : Lgs} (P : Pt x y lg) {W : Int} (hW : 1 ≤ W ∧ W ≤ 9)
include P hW
theorem en_get {lg : Lgs} {i : Nat} {d : PyData} (h : (enumD (lg.map lgD))[i]? = some d) : i < lg.length ∧ d = .tuple [.int (i : Int), .tuple [.str (wayS (wy lg i)), .int (ln lg i)]] := by
  unfold enumD at h
  rw [List.getElem?_mapIdx] at h
  obtain ⟨l, hl, rfl⟩ := Option.map_eq_some_iff.mp h
  obtain ⟨hi, rfl⟩ := lg_get hl
  exact ⟨hi, rfl⟩
theorem en_len (lg : Lgs) : (enumD (lg.map lgD)).length = lg.length := by simp [enumD]
end
end
section
variable [Tbl] [FnA]
/-! ## the law's strips -/
theorem r_law_step {w : Nat} (h : w < 4) (st : Sto) : m__law_step [.d (.str (wayS w))] st = .ok (.d (.tuple [.int (dx w), .int (dy w)])) st := by
  have e : dicW [.d (.str "east"), .d (.tuple [.int 1, .int 0]), .d (.str "north"), .d (.tuple [.int 0, .int 1]), .d (.str "west"), .d (.tuple [.int (-1), .int 0]), .d (.str "south"), .d (.tuple [.int 0, .int (-1)])] st = .ok (.d (.dict [(.str "east", .tuple [.int 1, .int 0]), (.str "north", .tuple [.int 0, .int 1]), (.str "west", .tuple [.int (-1), .int 0]), (.str "south", .tuple [.int 0, .int (-1)])])) st := rfl
  have x : ixD (.dict [(.str "east", .tuple [.int 1, .int 0]), (.str "north", .tuple [.int 0, .int 1]), (.str "west", .tuple [.int (-1), .int 0]), (.str "south", .tuple [.int 0, .int (-1)])]) (.str (wayS w)) = some (.tuple [.int (dx w), .int (dy w)]) := by
    rcases w4 h with rfl | rfl | rfl | rfl <;> rfl
  unfold m__law_step d__law_step
  simp -implicitDefEqProofs [tupW, e, x]
theorem side_dec {w v : Nat} (h : w < 4) (h2 : v < 4) : (dx w * dy v - dy w * dx v == 1) = decide ((v + 4 - w) % 4 = 1) := by
  rcases w4 h with rfl | rfl | rfl | rfl <;> rcases w4 h2 with rfl | rfl | rfl | rfl <;> decide
theorem big_d (w : Nat) (j : Int) : bigOk (dx w) j = true ∧ bigOk (dy w) j = true := by
  have hb : ∀ i : Int, i = 0 ∨ i = 1 ∨ i = -1 → bigOk i j = true := fun i hi => by
    unfold bigOk
    rw [decide_eq_true (show i.natAbs < 18446744073709551616 by omega)]
    rfl
  refine ⟨hb _ ?_, hb _ ?_⟩
  · unfold dx; split <;> simp
  · unfold dy; split <;> simp
theorem r_law_side {w v : Nat} (h : w < 4) (h2 : v < 4) (st : Sto) : m__law_side [.d (.str (wayS w)), .d (.str (wayS v))] st = .ok (.d (sdD (decide ((v + 4 - w) % 4 = 1)))) st := by
  have e1 := fun st => r_law_step h st
  have e2 := fun st => r_law_step h2 st
  have sd := side_dec h h2
  have b1 := fun j => (big_d w j).1
  have b2 := fun j => (big_d w j).2
  rw [← sd]
  unfold m__law_side d__law_side sdD
  by_cases q : dx w * dy v - dy w * dx v = 1
  · simp -implicitDefEqProofs [e1, e2, b1, b2, q]
  · simp -implicitDefEqProofs [e1, e2, b1, b2, q]
section
variable {x y : Int} {lg : Lgs} (P : Pt x y lg) {W : Int} (hW : 1 ≤ W ∧ W ≤ 9)
include P hW
theorem ls_turn {i : Nat} (hi : i < lg.length) (v0 x9 x10 x11 x12 : Option Wv) (st : Sto) :
    ∃ y9 y10 y11 y12, d__law_strips_l1 [v0, some (.d (.int (W))), some (.d (.int (px lg x i))), some (.d (.int (py lg y i))), some (.d (.tuple (lg.map lgD))), some (.r st.length), some (.d (.int ((i : Int)))), some (.d (.str (wayS (wy lg i)))), some (.d (.int (ln lg i))), x9, x10, x11, x12] (st ++ [.lst ((List.range i).map (stD lg x y W))]) =
      (if 1 ≤ he lg W i then .nx [v0, some (.d (.int (W))), some (.d (.int (px lg x (i + 1)))), some (.d (.int (py lg y (i + 1)))), some (.d (.tuple (lg.map lgD))), some (.r st.length), some (.d (.int ((i : Int)))), some (.d (.str (wayS (wy lg i)))), some (.d (.int (ln lg i))), y9, y10, y11, y12] (st ++ [.lst ((List.range (i + 1)).map (stD lg x y W))]) else .rt (.w (.d (.int ((i : Int))))) (st ++ [.lst ((List.range i).map (stD lg x y W))])) := by
  have hn := P.n
  have hk := P.k hi
  have hA := ah_b (lg := lg) hW i
  have lgx : ∀ j, j < lg.length → atD (lg.map lgD) (j : Int) = some (.tuple [.str (wayS (wy lg j)), .int (ln lg j)]) := fun j hj => by
    rw [atD_nat, List.getElem?_map, List.getElem?_eq_getElem hj, lg_at hj]; rfl
  have sd : ∀ j, j + 1 < lg.length → ∀ st, m__law_side [.d (.str (wayS (wy lg j))), .d (.str (wayS (wy lg (j + 1))))] st = .ok (.d (sdD (lf lg j))) st := fun j hj st => r_law_side (P.k (show j < lg.length by omega)).1 (P.k hj).1 st
  have gt : (st ++ [Ob.lst ((List.range i).map (stD lg x y W))])[st.length]? = some (.lst ((List.range i).map (stD lg x y W))) := by simp
  have il := isLst_l gt
  have ap := appW_l gt (by rw [List.length_map, List.length_range]; omega) (stD lg x y W i)
  rw [← rng_succ] at ap
  have es := fun st => r_law_step hk.1 st
  have hlen : (lg.map lgD).length = lg.length := by simp
  generalize hL : lg.map lgD = LL at *
  generalize (List.range (i + 1)).map (stD lg x y W) = R2 at *
  generalize (List.range i).map (stD lg x y W) = R at *
  have se : (st ++ [Ob.lst R]).set st.length (Ob.lst R2) = st ++ [Ob.lst R2] := by simp
  rw [se] at ap
  clear se
  generalize st.length = n at *
  generalize st ++ [Ob.lst R2] = st2 at *
  generalize st ++ [Ob.lst R] = st1 at *
  have hS : (sAsg (gTp (gCn (gN 9) (gCn (gN 10) gNl))) (eCall m__law_step (aCons (eVar 7) aNil))) [v0, some (.d (.int (W))), some (.d (.int (px lg x i))), some (.d (.int (py lg y i))), some (.d (.tuple LL)), some (.r n), some (.d (.int ((i : Int)))), some (.d (.str (wayS (wy lg i)))), some (.d (.int (ln lg i))), x9, x10, x11, x12] st1 = .nx [v0, some (.d (.int (W))), some (.d (.int (px lg x i))), some (.d (.int (py lg y i))), some (.d (.tuple LL)), some (.r n), some (.d (.int ((i : Int)))), some (.d (.str (wayS (wy lg i)))), some (.d (.int (ln lg i))), some (.d (.int (dx (wy lg i)))), some (.d (.int (dy (wy lg i)))), x11, x12] st1 := by
    simp -implicitDefEqProofs [es]
  have hP : (sPar2 11 12 (aCons (eK (.int 0)) (aCons (eVar 8) aNil))) [v0, some (.d (.int (W))), some (.d (.int (px lg x i))), some (.d (.int (py lg y i))), some (.d (.tuple LL)), some (.r n), some (.d (.int ((i : Int)))), some (.d (.str (wayS (wy lg i)))), some (.d (.int (ln lg i))), some (.d (.int (dx (wy lg i)))), some (.d (.int (dy (wy lg i)))), x11, x12] st1 = .nx [v0, some (.d (.int (W))), some (.d (.int (px lg x i))), some (.d (.int (py lg y i))), some (.d (.tuple LL)), some (.r n), some (.d (.int ((i : Int)))), some (.d (.str (wayS (wy lg i)))), some (.d (.int (ln lg i))), some (.d (.int (dx (wy lg i)))), some (.d (.int (dy (wy lg i)))), some (.d (.int (0))), some (.d (.int (ln lg i)))] st1 := by
    simp -implicitDefEqProofs
  have hB : (sIf (tAnd2 (tBl (eOp2 gtD (eVar 6) (eK (.int 0)))) (tBl (eOp2 eqD (eCall m__law_side (aCons (eOp2 ixD (eOp2 ixD (eVar 4) (eOp2 subD (eVar 6) (eK (.int 1)))) (eK (.int 0))) (aCons (eVar 7) aNil))) (eK (.str "left"))))) (sSet 11 (eVar 1)) sNil) [v0, some (.d (.int (W))), some (.d (.int (px lg x i))), some (.d (.int (py lg y i))), some (.d (.tuple LL)), some (.r n), some (.d (.int ((i : Int)))), some (.d (.str (wayS (wy lg i)))), some (.d (.int (ln lg i))), some (.d (.int (dx (wy lg i)))), some (.d (.int (dy (wy lg i)))), some (.d (.int (0))), some (.d (.int (ln lg i)))] st1 = .nx [v0, some (.d (.int (W))), some (.d (.int (px lg x i))), some (.d (.int (py lg y i))), some (.d (.tuple LL)), some (.r n), some (.d (.int ((i : Int)))), some (.d (.str (wayS (wy lg i)))), some (.d (.int (ln lg i))), some (.d (.int (dx (wy lg i)))), some (.d (.int (dy (wy lg i)))), some (.d (.int (ah lg W i))), some (.d (.int (ln lg i)))] st1 := by
    rcases i with _ | j
    · simp -implicitDefEqProofs [ah]
    · have e1 : ((j + 1 : Nat) : Int) - 1 = (j : Int) := by omega
      have e2 : (0 : Int) < ((j + 1 : Nat) : Int) := by omega
      have e3 := lgx j (by omega)
      have e4 := sd j hi
      generalize ((j + 1 : Nat) : Int) = J at *
      generalize wayS (wy lg (j + 1)) = V at *
      cases q : lf lg j <;> rw [q] at e4 <;> simp -implicitDefEqProofs [ah, e1, e2, e3, e4, sd_left, q]
  have hE : (sIf (tAnd2 (tBl (eOp2 ltD (eOp2 addD (eVar 6) (eK (.int 1))) (eOpN lenF (aCons (eVar 4) aNil)))) (tBl (eOp2 eqD (eCall m__law_side (aCons (eVar 7) (aCons (eOp2 ixD (eOp2 ixD (eVar 4) (eOp2 addD (eVar 6) (eK (.int 1)))) (eK (.int 0))) aNil))) (eK (.str "right"))))) (sSet 12 (eOp2 addD (eVar 8) (eVar 1))) sNil) [v0, some (.d (.int (W))), some (.d (.int (px lg x i))), some (.d (.int (py lg y i))), some (.d (.tuple LL)), some (.r n), some (.d (.int ((i : Int)))), some (.d (.str (wayS (wy lg i)))), some (.d (.int (ln lg i))), some (.d (.int (dx (wy lg i)))), some (.d (.int (dy (wy lg i)))), some (.d (.int (ah lg W i))), some (.d (.int (ln lg i)))] st1 = .nx [v0, some (.d (.int (W))), some (.d (.int (px lg x i))), some (.d (.int (py lg y i))), some (.d (.tuple LL)), some (.r n), some (.d (.int ((i : Int)))), some (.d (.str (wayS (wy lg i)))), some (.d (.int (ln lg i))), some (.d (.int (dx (wy lg i)))), some (.d (.int (dy (wy lg i)))), some (.d (.int (ah lg W i))), some (.d (.int (ln lg i + mo lg W i)))] st1 := by
    by_cases z : i + 1 < lg.length
    · have e2 : ((i : Int) + 1) < (lg.length : Int) := by omega
      have e3 := lgx (i + 1) z
      have e4 := sd i z
      have e5 : mo lg W i = (if lf lg i = true then 0 else W) := by unfold mo; rw [if_pos z]
      rw [e5]
      have e6 : ((i + 1 : Nat) : Int) = (i : Int) + 1 := by omega
      rw [e6] at e3
      cases q : lf lg i <;> rw [q] at e4 <;> simp -implicitDefEqProofs [hlen, e2, e3, e4, sd_right]
    · have e2 : ¬ ((i : Int) + 1) < (lg.length : Int) := by omega
      have e5 : mo lg W i = 0 := by unfold mo; rw [if_neg z]
      rw [e5]
      simp -implicitDefEqProofs [hlen, e2]
  have eh : he lg W i = ln lg i + mo lg W i - ah lg W i := rfl
  have bA := fun j => big_l (i := ah lg W i) (j := j) hA.1 (by omega)
  have bL := fun j => big_l (i := ln lg i) (j := j) (by omega) (by omega)
  have e0 : PyData.tuple [.int (px lg x i + ah lg W i * dx (wy lg i)), .int (py lg y i + ah lg W i * dy (wy lg i)), .str (wayS (wy lg i)), .int (ln lg i + mo lg W i - ah lg W i)] = stD lg x y W i := rfl
  refine ⟨some (.d (.int (dx (wy lg i)))), some (.d (.int (dy (wy lg i)))), some (.d (.int (ah lg W i))), some (.d (.int (ln lg i + mo lg W i))), ?_⟩
  unfold d__law_strips_l1
  rw [x_seq, hS, SR.seq_nx, x_seq, hP, SR.seq_nx, x_seq, hB, SR.seq_nx, x_seq, hE, SR.seq_nx]
  by_cases ok : 1 ≤ he lg W i
  · have z : ¬ ln lg i + mo lg W i ≤ ah lg W i := by omega
    rw [if_pos ok, px, py]
    simp -implicitDefEqProofs [z, bA, bL, il, tupW, e0, ap]
  · have z : ln lg i + mo lg W i ≤ ah lg W i := by omega
    rw [if_neg ok]
    simp -implicitDefEqProofs [z]
theorem ls_go (n : Nat) (hn : n ≤ lg.length) (ok : ∀ k, k < n → 1 ≤ he lg W k) (v0 : Option Wv) (rest : List PyData) (hr : enumD (lg.map lgD) = (enumD (lg.map lgD)).take n ++ rest) (st : Sto) :
    ∃ x6 x7 x8 x9 x10 x11 x12, forL (gTp (gCn (gN 6) (gCn (gTp (gCn (gN 7) (gCn (gN 8) gNl))) gNl))) d__law_strips_l1 [] ((enumD (lg.map lgD)).take n) [v0, some (.d (.int (W))), some (.d (.int (x))), some (.d (.int (y))), some (.d (.tuple (lg.map lgD))), some (.r st.length), none, none, none, none, none, none, none] (st ++ [.lst []]) =
      .nx [v0, some (.d (.int (W))), some (.d (.int (px lg x n))), some (.d (.int (py lg y n))), some (.d (.tuple (lg.map lgD))), some (.r st.length), x6, x7, x8, x9, x10, x11, x12] (st ++ [.lst ((List.range n).map (stD lg x y W))]) := by
  obtain ⟨env, st1, e1, y6, y7, y8, y9, y10, y11, y12, rfl, rfl⟩ := forL_goI (g := gTp (gCn (gN 6) (gCn (gTp (gCn (gN 7) (gCn (gN 8) gNl))) gNl))) (b := d__law_strips_l1) (fun i env st' => ∃ y6 y7 y8 y9 y10 y11 y12, env = [v0, some (.d (.int (W))), some (.d (.int (px lg x i))), some (.d (.int (py lg y i))), some (.d (.tuple (lg.map lgD))), some (.r st.length), y6, y7, y8, y9, y10, y11, y12] ∧ st' = st ++ [.lst ((List.range i).map (stD lg x y W))]) ((enumD (lg.map lgD)).take n) 0 (fun i d hd env st' hI => by
    rw [Nat.zero_add] at hI ⊢
    obtain ⟨y6, y7, y8, y9, y10, y11, y12, rfl, rfl⟩ := hI
    rw [List.getElem?_take] at hd
    split at hd
    · rename_i hin
      obtain ⟨hi, rfl⟩ := en_get P hW hd
      obtain ⟨z9, z10, z11, z12, t⟩ := ls_turn P hW hi v0 y9 y10 y11 y12 st
      rw [if_pos (ok i hin)] at t
      exact ⟨_, _, _, rfl, t, _, _, _, _, _, _, _, rfl, rfl⟩
    · cases hd) [v0, some (.d (.int (W))), some (.d (.int (x))), some (.d (.int (y))), some (.d (.tuple (lg.map lgD))), some (.r st.length), none, none, none, none, none, none, none] (st ++ [.lst []]) ⟨none, none, none, none, none, none, none, rfl, rfl⟩
  have hl : ((enumD (lg.map lgD)).take n).length = n := by rw [List.length_take, en_len P hW]; omega
  rw [hl, Nat.zero_add] at e1
  exact ⟨_, _, _, _, _, _, _, e1⟩
theorem r_law_strips_ok (ok : ∀ k, k < lg.length → 1 ≤ he lg W k) (st : Sto) : m__law_strips [.d (ptD x y lg), (.d (.int (W)))] st = .ok (.d (.list ((List.range lg.length).map (stD lg x y W)))) st := by
  have hn := P.n
  have el := en_len P hW (lg := lg)
  obtain ⟨x6, x7, x8, x9, x10, x11, x12, e1⟩ := ls_go P hW lg.length (Nat.le_refl _) ok (some (.d (ptD x y lg))) [] (by rw [List.take_of_length_le (by rw [el]; exact Nat.le_refl _), List.append_nil]) st
  rw [List.take_of_length_le (by rw [el]; exact Nat.le_refl _)] at e1
  have gt : (st ++ [Ob.lst ((List.range lg.length).map (stD lg x y W))])[st.length]? = some (.lst ((List.range lg.length).map (stD lg x y W))) := by simp
  have l1 : lg.length ≤ 1000000 := by omega
  generalize (List.range lg.length).map (stD lg x y W) = R at *
  unfold ptD at *
  unfold m__law_strips d__law_strips
  simp -implicitDefEqProofs [newW, enumW, l1, e1, x_end_fr (Nat.le_refl _) gt]
end
theorem forL_two {g : Wv → En → Option En} {b : En → Sto → SR} : ∀ (xs ys : List PyData) (env : En) (st : Sto), forL g b [] (xs ++ ys) env st = (forL g b [] xs env st).seq (forL g b [] ys)
  | [], ys, env, st => by simp
  | x :: xs, ys, env, st => by
    rw [List.cons_append, forL_cons, forL_cons]
    cases g (.d x) env with
    | none => rfl
    | some env1 =>
      dsimp only
      cases h : b env1 st with
      | nx env2 st2 => simp only [SR.seq_nx]; exact forL_two xs ys env2 st2
      | rt p st2 => rfl
      | ex e st2 => rfl
      | no => rfl
theorem r_law_strips_bad {x y : Int} {lg : Lgs} (P : Pt x y lg) {W : Int} (hW : 1 ≤ W ∧ W ≤ 9) {n : Nat} (hn2 : n < lg.length) (ok : ∀ k, k < n → 1 ≤ he lg W k) (bad : ¬ 1 ≤ he lg W n) (st : Sto) : m__law_strips [.d (ptD x y lg), (.d (.int (W)))] st = .ok (.d (.int ((n : Int)))) st := by
  have hn := P.n
  have el := en_len P hW (lg := lg)
  have hd : (enumD (lg.map lgD))[n]? = some ((enumD (lg.map lgD))[n]'(by rw [el]; exact hn2)) := List.getElem?_eq_getElem _
  obtain ⟨_, ed⟩ := en_get P hW hd
  have sp : enumD (lg.map lgD) = (enumD (lg.map lgD)).take n ++ (enumD (lg.map lgD)).drop n := (List.take_append_drop _ _).symm
  obtain ⟨x6, x7, x8, x9, x10, x11, x12, e1⟩ := ls_go P hW n (by omega) ok (some (.d (ptD x y lg))) _ sp st
  obtain ⟨z9, z10, z11, z12, t⟩ := ls_turn P hW hn2 (some (.d (ptD x y lg))) x9 x10 x11 x12 st
  rw [if_neg bad] at t
  have e2 : forL (gTp (gCn (gN 6) (gCn (gTp (gCn (gN 7) (gCn (gN 8) gNl))) gNl))) d__law_strips_l1 [] (enumD (lg.map lgD)) [some (.d (ptD x y lg)), some (.d (.int (W))), some (.d (.int (x))), some (.d (.int (y))), some (.d (.tuple (lg.map lgD))), some (.r st.length), none, none, none, none, none, none, none] (st ++ [.lst []]) = .rt (.w (.d (.int ((n : Int))))) (st ++ [.lst ((List.range n).map (stD lg x y W))]) := by
    rw [sp, forL_two, e1, SR.seq_nx, List.drop_eq_getElem_cons (by rw [el]; exact hn2), ed, forL_cons]
    have eg : (gTp (gCn (gN 6) (gCn (gTp (gCn (gN 7) (gCn (gN 8) gNl))) gNl))) (.d (.tuple [.int (n : Int), .tuple [.str (wayS (wy lg n)), .int (ln lg n)]])) [some (.d (ptD x y lg)), some (.d (.int (W))), some (.d (.int (px lg x n))), some (.d (.int (py lg y n))), some (.d (.tuple (lg.map lgD))), some (.r st.length), x6, x7, x8, x9, x10, x11, x12] = some [some (.d (ptD x y lg)), some (.d (.int (W))), some (.d (.int (px lg x n))), some (.d (.int (py lg y n))), some (.d (.tuple (lg.map lgD))), some (.r st.length), some (.d (.int ((n : Int)))), some (.d (.str (wayS (wy lg n)))), some (.d (.int (ln lg n))), x9, x10, x11, x12] := rfl
    rw [eg]
    dsimp only
    rw [t]
    rfl
  have l1 : lg.length ≤ 1000000 := by omega
  generalize (List.range n).map (stD lg x y W) = R at *
  unfold ptD at *
  unfold m__law_strips d__law_strips
  simp -implicitDefEqProofs [newW, enumW, l1, e2]
end
section
variable [Tbl] [FnA]
@[simp] theorem x_end_ex (n : Nat) (e : Xc) (st : Sto) : endS n (.ex e st) = .ex e (st.take n) := rfl
section
variable {x y : Int} {lg : Lgs} (P : Pt x y lg) {W : Int} (hW : 1 ≤ W ∧ W ≤ 9)
include P hW
theorem sb_turn {i : Nat} (hi : i < lg.length) (v0 : Option Wv) (st : Sto) :
    d_strips_by_l1 [v0, some (.d (.int (W))), some (.d (.list ((List.range (lg.length - 1)).map fun k => sdD (lf lg k)))), some (.d (.list ((List.range (lg.length + 1)).map (ppD lg x y)))), some (.r st.length), some (.d (.int ((i : Int)))), some (.d (.str (wayS (wy lg i)))), some (.d (.int (ln lg i))), none, none, none, none, none] (st ++ [.lst ((List.range i).map (stD lg x y W))]) =
      if 1 ≤ he lg W i then .nx [v0, some (.d (.int (W))), some (.d (.list ((List.range (lg.length - 1)).map fun k => sdD (lf lg k)))), some (.d (.list ((List.range (lg.length + 1)).map (ppD lg x y)))), some (.r st.length), none, none, none, none, none, none, none, none] (st ++ [.lst ((List.range (i + 1)).map (stD lg x y W))])
      else .ex ⟨"NoStrip", [("leg", .int (i : Int))]⟩ (st ++ [.lst ((List.range i).map (stD lg x y W))]) := by
  have hn := P.n
  have hk := P.k hi
  have hA := ah_b (lg := lg) hW i
  have sg : ∀ j, j + 1 < lg.length → atD ((List.range (lg.length - 1)).map fun k => sdD (lf lg k)) (j : Int) = some (sdD (lf lg j)) := fun j hj => by
    rw [atD_nat, List.getElem?_map, List.getElem?_range (by omega)]; rfl
  have pg : atD ((List.range (lg.length + 1)).map (ppD lg x y)) (i : Int) = some (.tuple [.int (px lg x i), .int (py lg y i)]) := by
    rw [atD_nat, List.getElem?_map, List.getElem?_range (by omega)]; rfl
  have sl : ((List.range (lg.length - 1)).map fun k => sdD (lf lg k)).length = lg.length - 1 := by simp
  generalize (List.range (lg.length - 1)).map (fun k => sdD (lf lg k)) = SS at *
  generalize (List.range (lg.length + 1)).map (ppD lg x y) = PP at *
  have gt : (st ++ [Ob.lst ((List.range i).map (stD lg x y W))])[st.length]? = some (.lst ((List.range i).map (stD lg x y W))) := by simp
  have il := isLst_l gt
  have ap := appW_l gt (by rw [List.length_map, List.length_range]; omega) (stD lg x y W i)
  rw [← rng_succ] at ap
  have h8 : ∀ (n : Nat) st, (eIf (tAnd2 (tBl (eOp2 gtD (eVar 5) (eK (.int 0)))) (tBl (eOp2 eqD (eOp2 ixD (eVar 2) (eOp2 subD (eVar 5) (eK (.int 1)))) (eK (.str "left"))))) (eVar 1) (eK (.int 0))) [v0, some (.d (.int (W))), some (.d (.list SS)), some (.d (.list PP)), some (.r n), some (.d (.int ((i : Int)))), some (.d (.str (wayS (wy lg i)))), some (.d (.int (ln lg i))), none, none, none, none, none] st = .ok (.d (.int (ah lg W i))) st := fun n st => by
    rcases i with _ | j
    · simp -implicitDefEqProofs [ah]
    · have e1 : ((j + 1 : Nat) : Int) - 1 = (j : Int) := by omega
      have e2 : (0 : Int) < ((j + 1 : Nat) : Int) := by omega
      have e3 := sg j hi
      generalize ((j + 1 : Nat) : Int) = J at *
      cases q : lf lg j <;> rw [q] at e3 <;> simp -implicitDefEqProofs [ah, e1, e2, e3, sd_left, q]
  have h9 : ∀ (u : Option Wv) (n : Nat) st, (eIf (tAnd2 (tBl (eOp2 ltD (eVar 5) (eOpN lenF (aCons (eVar 2) aNil)))) (tBl (eOp2 eqD (eOp2 ixD (eVar 2) (eVar 5)) (eK (.str "right"))))) (eVar 1) (eK (.int 0))) [v0, some (.d (.int (W))), some (.d (.list SS)), some (.d (.list PP)), some (.r n), some (.d (.int ((i : Int)))), some (.d (.str (wayS (wy lg i)))), some (.d (.int (ln lg i))), u, none, none, none, none] st = .ok (.d (.int (mo lg W i))) st := fun u n st => by
    by_cases q : i + 1 < lg.length
    · have e2 : i < lg.length - 1 := by omega
      have e3 := sg i q
      have e4 : mo lg W i = (if lf lg i = true then 0 else W) := by unfold mo; rw [if_pos q]
      rw [e4]
      cases q : lf lg i <;> rw [q] at e3 <;> simp -implicitDefEqProofs [sl, e2, e3, sd_right]
    · have e2 : ¬ i < lg.length - 1 := by omega
      have e4 : mo lg W i = 0 := by unfold mo; rw [if_neg q]
      rw [e4]
      simp -implicitDefEqProofs [sl, e2]
  have go := fun st => r_gone hk.1 (f := ah lg W i) (by omega) (px lg x i) (py lg y i) st
  have e0 : PyData.tuple [.int (px lg x i + ah lg W i * dx (wy lg i)), .int (py lg y i + ah lg W i * dy (wy lg i)), .str (wayS (wy lg i)), .int (ln lg i + mo lg W i - ah lg W i)] = stD lg x y W i := rfl
  have eh : he lg W i = ln lg i + mo lg W i - ah lg W i := rfl
  by_cases hb : 1 ≤ he lg W i
  · rw [if_pos hb]
    have h1' : ¬ ln lg i + mo lg W i - ah lg W i < 1 := by omega
    generalize (List.range (i + 1)).map (stD lg x y W) = R2 at *
    generalize (List.range i).map (stD lg x y W) = R at *
    unfold d_strips_by_l1
    rw [x_wp, x_seq, x_set, h8]
    simp only [Rs.sb_ok, SR.seq_nx, x_seq, x_set, List.set_cons_succ, List.set_cons_zero]
    rw [h9]
    simp -implicitDefEqProofs [h1', pg, go, il, tupW, e0, ap, wipeE]
  · rw [if_neg hb]
    have h1' : ln lg i + mo lg W i - ah lg W i < 1 := by omega
    generalize (List.range (i + 1)).map (stD lg x y W) = R2 at *
    generalize (List.range i).map (stD lg x y W) = R at *
    unfold d_strips_by_l1
    rw [x_wp, x_seq, x_set, h8]
    simp only [Rs.sb_ok, SR.seq_nx, x_seq, x_set, List.set_cons_succ, List.set_cons_zero]
    rw [h9]
    simp -implicitDefEqProofs [h1', raiseW]
/-- the loop over the legs, as far as strips have a length -/
theorem sb_loop (v0 : Option Wv) (st : Sto) : ∀ (m n : Nat), n + m = lg.length → (∀ k, k < n → 1 ≤ he lg W k) →
    forL (gTp (gCn (gN 5) (gCn (gTp (gCn (gN 6) (gCn (gN 7) gNl))) gNl))) d_strips_by_l1 [] ((enumD (lg.map lgD)).drop n) [v0, some (.d (.int (W))), some (.d (.list ((List.range (lg.length - 1)).map fun k => sdD (lf lg k)))), some (.d (.list ((List.range (lg.length + 1)).map (ppD lg x y)))), some (.r st.length), none, none, none, none, none, none, none, none] (st ++ [.lst ((List.range n).map (stD lg x y W))]) =
      match (List.range' n m).find? (fun k => decide (¬ 1 ≤ he lg W k)) with
      | none => .nx [v0, some (.d (.int (W))), some (.d (.list ((List.range (lg.length - 1)).map fun k => sdD (lf lg k)))), some (.d (.list ((List.range (lg.length + 1)).map (ppD lg x y)))), some (.r st.length), none, none, none, none, none, none, none, none] (st ++ [.lst ((List.range lg.length).map (stD lg x y W))])
      | some k => .ex ⟨"NoStrip", [("leg", .int (k : Int))]⟩ (st ++ [.lst ((List.range k).map (stD lg x y W))])
  | 0, n, h, _ => by
    have e : n = lg.length := by omega
    subst e
    rw [List.drop_eq_nil_of_le (by rw [en_len P hW]; exact Nat.le_refl _), forL_nil]
    rfl
  | m + 1, n, h, ok => by
    have el := en_len P hW (lg := lg)
    have hn : n < lg.length := by omega
    have hd : (enumD (lg.map lgD))[n]? = some ((enumD (lg.map lgD))[n]'(by rw [el]; exact hn)) := List.getElem?_eq_getElem _
    obtain ⟨_, ed⟩ := en_get P hW hd
    rw [List.drop_eq_getElem_cons (by rw [el]; exact hn), ed, forL_cons]
    have t := sb_turn P hW hn v0 st
    have eg : (gTp (gCn (gN 5) (gCn (gTp (gCn (gN 6) (gCn (gN 7) gNl))) gNl))) (.d (.tuple [.int (n : Int), .tuple [.str (wayS (wy lg n)), .int (ln lg n)]])) [v0, some (.d (.int (W))), some (.d (.list ((List.range (lg.length - 1)).map fun k => sdD (lf lg k)))), some (.d (.list ((List.range (lg.length + 1)).map (ppD lg x y)))), some (.r st.length), none, none, none, none, none, none, none, none] = some [v0, some (.d (.int (W))), some (.d (.list ((List.range (lg.length - 1)).map fun k => sdD (lf lg k)))), some (.d (.list ((List.range (lg.length + 1)).map (ppD lg x y)))), some (.r st.length), some (.d (.int ((n : Int)))), some (.d (.str (wayS (wy lg n)))), some (.d (.int (ln lg n))), none, none, none, none, none] := rfl
    rw [eg]
    dsimp only
    rw [t, List.range'_succ, List.find?_cons]
    by_cases hb : 1 ≤ he lg W n
    · rw [if_pos hb, decide_eq_false (fun z => z hb)]
      exact sb_loop v0 st m (n + 1) (by omega) fun k hk => by
        by_cases q : k = n
        · rw [q]; exact hb
        · exact ok k (by omega)
    · rw [if_neg hb, decide_eq_true hb]; rfl
/-- all strips, or the first leg that has none -/
theorem r_strips_by (st : Sto) : m_strips_by [.d (ptD x y lg), (.d (.int (W)))] st = match (List.range lg.length).find? (fun k => decide (¬ 1 ≤ he lg W k)) with
    | none => .ok (.d (.list ((List.range lg.length).map (stD lg x y W)))) st
    | some k => .ex ⟨"NoStrip", [("leg", .int (k : Int))]⟩ st := by
  have hn := P.n
  have e1 := sb_loop P hW (some (.d (ptD x y lg))) st lg.length 0 (by omega) fun k hk => absurd hk (by omega)
  rw [List.drop_zero, ← List.range_eq_range'] at e1
  have e2 := fun st => r_bend_sides P st
  have e3 := fun st => r_leg_points P st
  have l1 : lg.length ≤ 1000000 := by omega
  have nw : newW [] st = .ok (.r st.length) (st ++ [.lst []]) := rfl
  have z0 : (List.range 0).map (stD lg x y W) = [] := rfl
  rw [z0] at e1
  generalize (List.range (lg.length - 1)).map (fun k => sdD (lf lg k)) = SS at *
  generalize (List.range (lg.length + 1)).map (ppD lg x y) = PP at *
  cases hf : (List.range lg.length).find? (fun k => decide (¬ 1 ≤ he lg W k)) with
  | none =>
    rw [hf] at e1
    have gt : (st ++ [Ob.lst ((List.range lg.length).map (stD lg x y W))])[st.length]? = some (.lst ((List.range lg.length).map (stD lg x y W))) := by simp
    generalize (List.range lg.length).map (stD lg x y W) = R at *
    unfold ptD at *
    unfold m_strips_by d_strips_by
    simp -implicitDefEqProofs [e2, e3, nw, enumW, l1, e1, x_end_fr (Nat.le_refl _) gt, -forL_cons]
  | some k =>
    rw [hf] at e1
    have tk : (st ++ [Ob.lst ((List.range k).map (stD lg x y W))]).take st.length = st := by simp
    generalize (List.range k).map (stD lg x y W) = R at *
    unfold ptD at *
    unfold m_strips_by d_strips_by
    simp -implicitDefEqProofs [e2, e3, nw, enumW, l1, e1, tk, -forL_cons]
/-- the strips of a path and a width, or none -/
def strO (x y : Int) (lg : Lgs) (W : Int) : Option (List PyData) := match (List.range lg.length).find? (fun k => decide (¬ 1 ≤ he lg W k)) with
  | none => some ((List.range lg.length).map (stD lg x y W))
  | some _ => none
end
def optL : Option (List PyData) → PyData
  | some xs => .list xs
  | none => .none
theorem r_son {x y : Int} {lg : Lgs} (P : Pt x y lg) {W : Int} (hW : 1 ≤ W ∧ W ≤ 9) (z : PyData) (st : Sto) : m_strips_or_none [.d (.tuple [ptD x y lg, .int W, z])] st = .ok (.d (optL (strO x y lg W))) st := by
  have e1 := fun st => r_is_path (ptD x y lg) st
  rw [P.isPath] at e1
  have f1 : isFT (.int W) 1 9 = true := by simp [isFT, hW.1, hW.2]
  have e3 := fun st => r_strips_by P hW st
  unfold strO
  cases hf : (List.range lg.length).find? (fun k => decide (¬ 1 ≤ he lg W k)) with
  | none =>
    rw [hf] at e3
    have e3 : ∀ st, m_strips_by [.d (ptD x y lg), (.d (.int (W)))] st = .ok (.d (.list ((List.range lg.length).map (stD lg x y W)))) st := e3
    show _ = Rs.ok (Wv.d (.list ((List.range lg.length).map (stD lg x y W)))) st
    generalize (List.range lg.length).map (stD lg x y W) = SS at *
    generalize ptD x y lg = PD at *
    unfold m_strips_or_none d_strips_or_none sTryX
    simp -implicitDefEqProofs [e1, r_is_from_to, w_MOST_WIDTH, f1, e3]
  | some k =>
    rw [hf] at e3
    have e3 : ∀ st, m_strips_by [.d (ptD x y lg), (.d (.int (W)))] st = .ex ⟨"NoStrip", [("leg", .int (k : Int))]⟩ st := e3
    show _ = Rs.ok (Wv.d .none) st
    generalize ptD x y lg = PD at *
    unfold m_strips_or_none d_strips_or_none sTryX
    simp -implicitDefEqProofs [e1, r_is_from_to, w_MOST_WIDTH, f1, e3]
end
section
variable [Tbl] [FnA]
/-! ## rows of any stones -/
theorem zip_map {α β : Type} (g : α → β → PyData) : ∀ (xs : List α) (ys : List β), List.zipWith (fun a b => g a b) xs ys = (xs.zip ys).map fun p => g p.1 p.2
  | [], _ => by simp
  | _ :: _, [] => by simp
  | x :: xs, y :: ys => by simp [zip_map g xs ys]
def rowB (n : Nat) (f : Nat → Int) : PyData → Bool
  | .tuple xs => decide (xs.length = n) && (xs.zip (List.range n)).all fun p => isSt (f p.2) p.1
  | _ => false
/-- whether a path, a width and any thing are a row -/
def isRw (lg : Lgs) (W : Int) (z : PyData) : Bool := match (List.range lg.length).find? (fun k => decide (¬ 1 ≤ he lg W k)) with
  | none => rowB lg.length (he lg W) z
  | some _ => false
section
variable {x y : Int} {lg : Lgs} (P : Pt x y lg) {W : Int} (hW : 1 ≤ W ∧ W ≤ 9)
include P hW
theorem find_ok (hf : (List.range lg.length).find? (fun k => decide (¬ 1 ≤ he lg W k)) = none) : ∀ k, k < lg.length → 1 ≤ he lg W k := fun k hk => by
  have := List.find?_eq_none.mp hf k (List.mem_range.mpr hk)
  simpa using this
theorem zip_eq (xs : List PyData) : List.zipWith pairD xs ((List.range lg.length).map (stD lg x y W)) = (xs.zip (List.range lg.length)).map fun p => pairD p.1 (stD lg x y W p.2) := by
  rw [← zip_map (fun a k => pairD a (stD lg x y W k)), List.zipWith_map_right]
theorem row_no {z p : PyData} {W : Int} (h : isaD "tuple" z = some (.bool false)) (SS : List PyData) (e1 : ∀ st, m_strips_or_none [.d (.tuple [p, .int W, z])] st = .ok (.d (.list SS)) st) (st : Sto) : m_is_row [.d (.tuple [p, .int W, z])] st = .ok (.d (.bool false)) st := by
  unfold m_is_row d_is_row
  simp -implicitDefEqProofs [e1, h]
theorem r_is_rowD (z : PyData) (st : Sto) : m_is_row [.d (.tuple [ptD x y lg, .int W, z])] st = .ok (.d (.bool (isRw lg W z))) st := by
  have hn := P.n
  have e1 := fun st => r_son P hW z st
  unfold strO at e1
  unfold isRw
  cases hf : (List.range lg.length).find? (fun k => decide (¬ 1 ≤ he lg W k)) with
  | some k =>
    rw [hf] at e1
    have e1 : ∀ st, m_strips_or_none [.d (.tuple [ptD x y lg, .int W, z])] st = .ok (.d .none) st := e1
    show _ = Rs.ok (Wv.d (.bool false)) st
    generalize ptD x y lg = PD at *
    unfold m_is_row d_is_row
    simp -implicitDefEqProofs [e1]
  | none =>
    rw [hf] at e1
    have e1 : ∀ st, m_strips_or_none [.d (.tuple [ptD x y lg, .int W, z])] st = .ok (.d (.list ((List.range lg.length).map (stD lg x y W)))) st := e1
    show _ = Rs.ok (Wv.d (.bool (rowB lg.length (he lg W) z))) st
    have l1 : ((List.range lg.length).map (stD lg x y W)).length = lg.length := by simp
    cases z with
    | tuple xs =>
      by_cases hl : xs.length = lg.length
      · have e2 := lcL_mapE (g := gTp (gCn (gN 3) (gCn (gN 4) gNl))) (c := eCall m_are_stones (aCons (eVar 3) (aCons (eOp2 ixD (eVar 4) (eK (.int 3))) aNil))) (env := [some (.d (.tuple [ptD x y lg, .int W, .tuple xs])), some (.d (.list ((List.range lg.length).map (stD lg x y W)))), none, none, none]) (st := st) (fun p : PyData × Nat => pairD p.1 (stD lg x y W p.2)) (fun p => .bool (isSt (he lg W p.2) p.1)) (xs.zip (List.range lg.length)) [] (fun p hp => by
          have er := fun st => r_are_stonesD (he lg W p.2) p.1 st
          refine ⟨_, rfl, ?_⟩
          show (eCall m_are_stones (aCons (eVar 3) (aCons (eOp2 ixD (eVar 4) (eK (.int 3))) aNil))) [some (.d (.tuple [ptD x y lg, .int W, .tuple xs])), some (.d (.list ((List.range lg.length).map (stD lg x y W)))), none, some (.d p.1), some (.d (stD lg x y W p.2))] st = _
          have e3 : ixD (stD lg x y W p.2) (.int 3) = some (.int (he lg W p.2)) := rfl
          generalize stD lg x y W p.2 = SK at *
          simp -implicitDefEqProofs [er, e3])
        rw [List.nil_append, ← zip_eq P hW] at e2
        have oa := o_all' (xs.zip (List.range lg.length)) (fun p => isSt (he lg W p.2) p.1)
        have e0 : rowB lg.length (he lg W) (.tuple xs) = (xs.zip (List.range lg.length)).all fun p => isSt (he lg W p.2) p.1 := by simp [rowB, hl]
        rw [e0]
        have l4 : lg.length ≤ 1000000 := by omega
        have l3 : (List.zipWith pairD xs ((List.range lg.length).map (stD lg x y W))).length ≤ 1000000 := by rw [List.length_zipWith, l1]; omega
        clear e0
        generalize ((xs.zip (List.range lg.length)).all fun p => isSt (he lg W p.2) p.1) = Q at *
        generalize ((xs.zip (List.range lg.length)).map fun p => PyData.bool (isSt (he lg W p.2) p.1)) = BB at *
        generalize (List.range lg.length).map (stD lg x y W) = SS at *
        generalize ptD x y lg = PD at *
        unfold m_is_row d_is_row
        simp -implicitDefEqProofs [e1, l1, hl, l4, zip2W, l3, e2, oa, wipeE]
      · have hl2 : ¬ (xs.length : Int) = lg.length := by omega
        have e0 : rowB lg.length (he lg W) (.tuple xs) = false := by simp [rowB, hl]
        rw [e0]
        generalize (List.range lg.length).map (stD lg x y W) = SS at *
        generalize ptD x y lg = PD at *
        unfold m_is_row d_is_row
        simp -implicitDefEqProofs [e1, l1, hl2]
    | _ => exact row_no P hW rfl _ e1 st
end
end
section
variable [Tbl] [FnA]
/-! ## the law's look at rows -/
section
variable {x y : Int} {lg : Lgs} (P : Pt x y lg) {W : Int} (hW : 1 ≤ W ∧ W ≤ 9)
include P hW
theorem find_bad {k : Nat} (hf : (List.range lg.length).find? (fun k => decide (¬ 1 ≤ he lg W k)) = some k) : k < lg.length ∧ ¬ 1 ≤ he lg W k ∧ ∀ i, i < k → 1 ≤ he lg W i := by
  obtain ⟨h1, i, hi, e, h3⟩ := List.find?_eq_some_iff_getElem.mp hf
  have hi' : i < lg.length := by simpa using hi
  rw [List.getElem_range] at e
  subst e
  refine ⟨hi', by simpa using h1, fun k hk => ?_⟩
  have := h3 k hk
  rw [List.getElem_range] at this
  simp at this
  omega
theorem lrow_no {z p : PyData} {W : Int} (h : isaD "tuple" z = some (.bool false)) (SS : List PyData) (e1 : ∀ st, m__law_strips [.d p, .d (.int W)] st = .ok (.d (.list SS)) st) (st : Sto) : m__law_is_row [.d p, .d (.int W), .d z] st = .ok (.d (.bool false)) st := by
  unfold m__law_is_row d__law_is_row
  simp -implicitDefEqProofs [e1, h]
theorem r_law_is_row (z : PyData) (st : Sto) : m__law_is_row [.d (ptD x y lg), .d (.int W), .d z] st = .ok (.d (.bool (isRw lg W z))) st := by
  have hn := P.n
  unfold isRw
  cases hf : (List.range lg.length).find? (fun k => decide (¬ 1 ≤ he lg W k)) with
  | some k =>
    obtain ⟨h1, h2, h3⟩ := find_bad P hW hf
    have e1 := fun st => r_law_strips_bad P hW h1 h3 h2 st
    show _ = Rs.ok (Wv.d (.bool false)) st
    generalize ptD x y lg = PD at *
    unfold m__law_is_row d__law_is_row
    simp -implicitDefEqProofs [e1]
  | none =>
    have ok := find_ok P hW hf
    have e1 := fun st => r_law_strips_ok P hW ok st
    show _ = Rs.ok (Wv.d (.bool (rowB lg.length (he lg W) z))) st
    have l1 : ((List.range lg.length).map (stD lg x y W)).length = lg.length := by simp
    cases z with
    | tuple xs =>
      by_cases hl : xs.length = lg.length
      · have e2 := lcL_mapE (g := gTp (gCn (gN 5) (gCn (gN 6) gNl))) (c := eCall m__law_are_stones (aCons (eVar 5) (aCons (eOp2 ixD (eVar 6) (eK (.int 3))) aNil))) (env := [some (.d (ptD x y lg)), some (.d (.int (W))), some (.d (.tuple xs)), some (.d (.list ((List.range lg.length).map (stD lg x y W)))), none, none, none]) (st := st) (fun p : PyData × Nat => pairD p.1 (stD lg x y W p.2)) (fun p => .bool (isSt (he lg W p.2) p.1)) (xs.zip (List.range lg.length)) [] (fun p hp => by
          have hp2 : p.2 < lg.length := List.mem_range.mp (List.of_mem_zip (a := p.1) (b := p.2) hp).2
          have hk := ok p.2 hp2
          have er := fun st => r_law_are_stones (L := he lg W p.2) (by omega) p.1 st
          refine ⟨_, rfl, ?_⟩
          show (eCall m__law_are_stones (aCons (eVar 5) (aCons (eOp2 ixD (eVar 6) (eK (.int 3))) aNil))) [some (.d (ptD x y lg)), some (.d (.int (W))), some (.d (.tuple xs)), some (.d (.list ((List.range lg.length).map (stD lg x y W)))), none, some (.d p.1), some (.d (stD lg x y W p.2))] st = _
          have e3 : ixD (stD lg x y W p.2) (.int 3) = some (.int (he lg W p.2)) := rfl
          generalize stD lg x y W p.2 = SK at *
          simp -implicitDefEqProofs [er, e3])
        rw [List.nil_append, ← zip_eq P hW] at e2
        have oa := o_all' (xs.zip (List.range lg.length)) (fun p => isSt (he lg W p.2) p.1)
        have e0 : rowB lg.length (he lg W) (.tuple xs) = (xs.zip (List.range lg.length)).all fun p => isSt (he lg W p.2) p.1 := by simp [rowB, hl]
        rw [e0]
        have l4 : lg.length ≤ 1000000 := by omega
        have l3 : (List.zipWith pairD xs ((List.range lg.length).map (stD lg x y W))).length ≤ 1000000 := by rw [List.length_zipWith, l1]; omega
        clear e0
        generalize ((xs.zip (List.range lg.length)).all fun p => isSt (he lg W p.2) p.1) = Q at *
        generalize ((xs.zip (List.range lg.length)).map fun p => PyData.bool (isSt (he lg W p.2) p.1)) = BB at *
        generalize (List.range lg.length).map (stD lg x y W) = SS at *
        generalize ptD x y lg = PD at *
        unfold m__law_is_row d__law_is_row
        simp -implicitDefEqProofs [e1, l1, hl, l4, zip2W, l3, e2, oa, wipeE]
      · have hl2 : ¬ (xs.length : Int) = lg.length := by omega
        have e0 : rowB lg.length (he lg W) (.tuple xs) = false := by simp [rowB, hl]
        rw [e0]
        generalize (List.range lg.length).map (stD lg x y W) = SS at *
        generalize ptD x y lg = PD at *
        unfold m__law_is_row d__law_is_row
        simp -implicitDefEqProofs [e1, l1, hl2]
    | _ => exact lrow_no P hW rfl _ e1 st
end
end
section
variable [Tbl] [FnA]
/-! ## kept lambdas, all told alike -/
@[simp] theorem x_lm (j : Nat) (c : En → Sto → SR) (env : En) (st : Sto) : sLm j c env st = if j < env.length then c (env.set j none) st else .no := rfl
theorem goK_all {T : Option Str} {fl : Xc → Option PyData} {env : En} {X : PyData} : ∀ (cls : List (En → Sto → Rs Wv)) (acc : List PyData) (st : Sto), (∀ cl ∈ cls, ∀ st, saidR T fl st.length (cl env st) = .ok (.d X) st) → goK T fl env cls acc st = .ok (acc ++ List.replicate cls.length X) st
  | [], acc, st, _ => by simp
  | cl :: r, acc, st, h => by
    rw [goK_cons (h cl (by simp) st), goK_all r (acc ++ [X]) st fun c hc => h c (by simp [hc])]
    simp [List.replicate_succ]
theorem lams_all {T : Option Str} {fl : Xc → Option PyData} {env : En} {X : PyData} {cls : List (En → Sto → Rs Wv)} {st : Sto} (h : ∀ cl ∈ cls, ∀ st, saidR T fl st.length (cl env st) = .ok (.d X) st) : eLams T fl cls env st = .ok (.d (.list (List.replicate cls.length X))) st := by
  unfold eLams
  rw [goK_all cls [] st h]
  rfl
theorem said_of_ex {T : Option Str} {fl : Xc → Option PyData} {c : Sto → Rs Wv} {e : Xc} {X : PyData} (hf : fl e = some X) (h : ∀ st, c st = .ex e st) (st : Sto) : saidR T fl st.length (c st) = .ok (.d X) st := by
  rw [h st, saidR_ex T fl _ hf, List.take_length]
end
section
variable [Tbl] [FnA]
/-! ## what is refused -/
def IsRow (d : PyData) : Prop := ∀ st, m_is_row [.d d] st = .ok (.d (.bool true)) st
def NoRow (d : PyData) : Prop := ∀ st, m_is_row [.d d] st = .ok (.d (.bool false)) st
theorem nr_ok {d : PyData} (h : IsRow d) (st : Sto) : m_need_row [.d d] st = .ok (.d .none) st := by
  have e := fun st => h st
  unfold m_need_row d_need_row
  simp -implicitDefEqProofs [e]
theorem nr_bad {d : PyData} (h : NoRow d) (st : Sto) : m_need_row [.d d] st = .ex ⟨"NoRow", []⟩ st := by
  have e := fun st => h st
  unfold m_need_row d_need_row
  simp -implicitDefEqProofs [e]
/-- some of the rows is none -/
theorem nrs_bad (L : List (PyData × Bool)) (hl : L.length ≤ 6) (h : ∀ p ∈ L, ∀ st, m_is_row [.d p.1] st = .ok (.d (.bool p.2)) st) (hb : L.all (·.2) = false) (st : Sto) : m_need_rows [.d (.tuple (L.map (·.1)))] st = .ex ⟨"NoRow", []⟩ st := by
  have e1 := lcL_mapE (g := gN 2) (c := eCall m_is_row (aCons (eVar 2) aNil)) (env := [some (.d (.tuple (L.map (·.1)))), none, none]) (st := st) (fun p : PyData × Bool => p.1) (fun p => .bool p.2) L [] (fun p hp => by
    have e := fun st => h p hp st
    refine ⟨_, rfl, ?_⟩
    show (eCall m_is_row (aCons (eVar 2) aNil)) [some (.d (.tuple (L.map (·.1)))), none, some (.d p.1)] st = _
    simp -implicitDefEqProofs [e])
  have oa := o_all' L (fun p => p.2)
  rw [hb] at oa
  rw [List.nil_append] at e1
  have l1 : ((L.map (·.1)).length : Int) ≤ 6 := by rw [List.length_map]; omega
  have l2 : (L.map (·.1)).length ≤ 1000000 := by rw [List.length_map]; omega
  generalize L.map (fun p => PyData.bool p.2) = BB at *
  generalize L.map (·.1) = LL at *
  unfold m_need_rows d_need_rows
  simp -implicitDefEqProofs [w_MOST_ROWS, l1, l2, srcW_dt, e1, oa, wipeE]
theorem fl_R : fl__law_word ⟨"NoRow", []⟩ = some (.tuple [.str "row"]) := rfl
theorem fl_L : fl__law_word ⟨"NoPlace", []⟩ = some (.tuple [.str "place"]) := rfl
theorem fl_J : fl__law_word ⟨"NoJoints", []⟩ = some (.tuple [.str "joints"]) := rfl
theorem r_refused {d r : PyData} (hb : NoRow d) (hr : IsRow r) (st : Sto) : m__law_refused [.d d, .d r] st = .ok (.d (.bool true)) st := by
  have n1 := fun st => nr_bad hb st
  have n2 := fun st => nr_ok hr st
  have n3 : ∀ st, m_need_rows [.d (.tuple [r, d])] st = .ex ⟨"NoRow", []⟩ st := fun st => nrs_bad [(r, true), (d, false)] (by simp) (fun p hp => by
    simp only [List.mem_cons, List.not_mem_nil, or_false] at hp
    rcases hp with rfl | rfl
    · exact hr
    · exact hb) rfl st
  have n4 : ∀ st, m_need_rows [.d (.tuple [d])] st = .ex ⟨"NoRow", []⟩ st := fun st => nrs_bad [(d, false)] (by simp) (fun p hp => by
    simp only [List.mem_cons, List.not_mem_nil, or_false] at hp
    rcases hp with rfl
    exact hb) rfl st
  have e1 : ∀ x st, m_in_joints [.d d, .d x] st = .ex ⟨"NoRow", []⟩ st := fun x st => by
    unfold m_in_joints d_in_joints
    simp -implicitDefEqProofs [n1]
  have e2 : ∀ st, m_stones_of [.d d] st = .ex ⟨"NoRow", []⟩ st := fun st => by
    unfold m_stones_of d_stones_of
    simp -implicitDefEqProofs [n1]
  have e3 : ∀ st, m_apart [.d d, .d r] st = .ex ⟨"NoRow", []⟩ st := fun st => by
    unfold m_apart d_apart
    simp -implicitDefEqProofs [n1]
  have e4 : ∀ st, m_apart [.d r, .d d] st = .ex ⟨"NoRow", []⟩ st := fun st => by
    unfold m_apart d_apart
    simp -implicitDefEqProofs [n1, n2]
  have e5 : ∀ st, m_joints_of [.d d] st = .ex ⟨"NoRow", []⟩ st := fun st => by
    unfold m_joints_of d_joints_of
    simp -implicitDefEqProofs [n1]
  have e6 : ∀ st, m_first_over [.d (.tuple [r, d])] st = .ex ⟨"NoRow", []⟩ st := fun st => by
    unfold m_first_over d_first_over
    simp -implicitDefEqProofs [n3]
  have e7 : ∀ st, m_area_of [.d (.tuple [d])] st = .ex ⟨"NoRow", []⟩ st := fun st => by
    unfold m_area_of d_area_of
    simp -implicitDefEqProofs [n4]
  have e8 : ∀ x y st, m_at_square [.d (.tuple [d]), .d x, .d y] st = .ex ⟨"NoRow", []⟩ st := fun x y st => by
    unfold m_at_square d_at_square
    simp -implicitDefEqProofs [n4]
  have t2 : ∀ a b st, tupW [.d a, .d b] st = .ok (.d (.tuple [a, b])) st := fun a b st => rfl
  have t1 : ∀ a st, tupW [.d a] st = .ok (.d (.tuple [a])) st := fun a st => rfl
  have all : eLams told__law_word fl__law_word [(eCall m_in_joints (aCons (eVar 0) (aCons (eK .none) aNil))), (eCall m_stones_of (aCons (eVar 0) aNil)), (eCall m_apart (aCons (eVar 0) (aCons (eVar 1) aNil))), (eCall m_apart (aCons (eVar 1) (aCons (eVar 0) aNil))), (eCall m_joints_of (aCons (eVar 0) aNil)), (eCall m_first_over (aCons (eTup (aCons (eVar 1) (aCons (eVar 0) aNil))) aNil)), (eCall m_area_of (aCons (eTup (aCons (eVar 0) aNil)) aNil)), (eCall m_at_square (aCons (eTup (aCons (eVar 0) aNil)) (aCons (eK .none) (aCons (eK (.int 0)) aNil))))] [some (.d d), some (.d r), none, none, none] st = .ok (.d (.list (List.replicate 8 (.tuple [.str "row"])))) st := by
    refine lams_all (X := .tuple [.str "row"]) fun cl hcl => ?_
    simp only [List.mem_cons, List.not_mem_nil, or_false] at hcl
    rcases hcl with rfl | rfl | rfl | rfl | rfl | rfl | rfl | rfl <;> refine said_of_ex fl_R fun st => ?_ <;> simp -implicitDefEqProofs [t1, t2, e1, e2, e3, e4, e5, e6, e7, e8]
  have tw : ∀ st, tupW [.d (.str "row")] st = .ok (.d (.tuple [.str "row"])) st := fun st => rfl
  have mu : mulD (.list [.tuple [.str "row"]]) (.int 8) = some (.list (List.replicate 8 (.tuple [.str "row"]))) := rfl
  have q : eqD (.list (List.replicate 8 (.tuple [.str "row"]))) (.list (List.replicate 8 (.tuple [.str "row"]))) = some (.bool true) := rfl
  have lw : ∀ a st, lstW [.d a] st = .ok (.d (.list [a])) st := fun a st => rfl
  generalize (List.replicate 8 (PyData.tuple [.str "row"])) = L at *
  generalize PyData.tuple [.str "row"] = W at *
  clear t1 t2
  unfold m__law_refused d__law_refused
  simp -implicitDefEqProofs [all, tw, lw, mu, q, -o_mul_l]
end
section
variable [Tbl] [FnA]
/-! ## things that are no rows -/
theorem nrow3 {p w : PyData} (h : isPath p = false ∨ isFT w 1 9 = false) (z : PyData) : NoRow (.tuple [p, w, z]) := fun st => by
  have e1 := fun st => r_is_path p st
  have e2 := fun st => r_is_from_to w 1 9 st
  have e3 : ∀ st, m_strips_or_none [.d (.tuple [p, w, z])] st = .ok (.d .none) st := fun st => by
    unfold m_strips_or_none d_strips_or_none
    cases hp : isPath p with
    | false =>
      rw [hp] at e1
      simp -implicitDefEqProofs [e1]
    | true =>
      rw [hp] at e1 h
      have hw : isFT w 1 9 = false := h.resolve_left (by simp)
      rw [hw] at e2
      simp -implicitDefEqProofs [e1, e2, w_MOST_WIDTH]
  unfold m_is_row d_is_row
  simp -implicitDefEqProofs [e3]
theorem nrow_tup {xs : List PyData} (h : xs.length ≠ 3) : NoRow (.tuple xs) := fun st => by
  have h2 : ¬ (xs.length : Int) = 3 := by omega
  unfold m_is_row d_is_row
  simp -implicitDefEqProofs [h2]
theorem nrow_else {d : PyData} (h : ∀ xs, d ≠ .tuple xs) : NoRow d := fun st => by
  unfold m_is_row d_is_row
  cases d with
  | tuple xs => exact absurd rfl (h xs)
  | _ => simp -implicitDefEqProofs
theorem path_tup {xs : List PyData} (h : ∀ d ∈ xs, ∃ ys, d = .tuple ys) : isPath (.tuple xs) = false := by
  match xs, h with
  | [], _ => rfl
  | [a], _ => rfl
  | [a, b], _ => rfl
  | [a, b, c], h =>
    obtain ⟨ys, rfl⟩ := h a (by simp)
    cases c <;> rfl
  | a :: b :: c :: d :: r, _ => simp [isPath]
end
section
variable [Tbl] [FnA]
/-! ## bent stones -/
theorem addT {xs ys : List PyData} (h : xs.length + ys.length ≤ 1000000) : addD (.tuple xs) (.tuple ys) = some (.tuple (xs ++ ys)) := by rw [o_add_t, if_pos h]
theorem addL {xs ys : List PyData} (h : xs.length + ys.length ≤ 1000000) : addD (.list xs) (.list ys) = some (.list (xs ++ ys)) := by rw [o_add_l, if_pos h]
theorem cut_a (xs : List PyData) (k : Nat) : slD none (some (k : Int)) (.tuple xs) = some (.tuple (xs.take k)) := by rw [o_sl_t, cutD_take]
theorem cut_b (xs : List PyData) (k : Nat) : slD (some (k : Int)) none (.tuple xs) = some (.tuple (xs.drop k)) := by rw [o_sl_t, cutD_drop]
theorem r_bent_stones {XS : List PyData} (hn : 1 ≤ XS.length ∧ XS.length ≤ 12) {k : Nat} (hk : k < XS.length) {s l : Int} (h : XS[k]? = some (.tuple [.int s, .int l])) (st : Sto) : ∃ F, m__law_bent_stones [.d (.tuple XS), .d (.int (k : Int))] st = .ok (.d (.list F)) st ∧ F.length ≤ 100 := by
  have ix : ixD (.tuple XS) (.int (k : Int)) = some (.tuple [.int s, .int l]) := by
    show atD XS (k : Int) = _
    rw [atD_nat]; exact h
  have a1 := cut_a XS k
  have a2 := cut_b XS k
  have k1 : ((k : Int) + 1) = ((k + 1 : Nat) : Int) := by omega
  have a3 := cut_a XS (k + 1)
  have a4 := cut_b XS (k + 1)
  have lt1 : (XS.take k).length ≤ 12 := by rw [List.length_take]; omega
  have lt2 : (XS.drop (k + 1)).length ≤ 12 := by rw [List.length_drop]; omega
  have lt3 : (XS.take (k + 1)).length ≤ 12 := by rw [List.length_take]; omega
  have lt4 : (XS.drop k).length ≤ 12 := by rw [List.length_drop]; omega
  have d1 := addT (xs := XS.take k) (ys := XS.drop (k + 1)) (by omega)
  have d2 := addT (xs := XS.take (k + 1)) (ys := XS.drop k) (by omega)
  have d3 := fun d : PyData => addT (xs := XS.take k) (ys := [d]) (by simp; omega)
  have d4 := fun d : PyData => addT (xs := XS.take k ++ [d]) (ys := XS.drop (k + 1)) (by simp; omega)
  obtain ⟨M, mu⟩ : ∃ M, mulD (.tuple XS) (.int 13) = some (.tuple M) := by
    rw [o_mul_t]
    split
    · exact ⟨_, rfl⟩
    · rw [if_pos ⟨by decide, by decide, by omega, fun z => by rw [z] at hn; simp at hn⟩]
      exact ⟨_, rfl⟩
  have ms : slD none (some 13) (.tuple M) = some (.tuple (cutD M none (some 13))) := rfl
  have rv : revD (.tuple XS) = some (.tuple XS.reverse) := rfl
  have lsx : lstF [.tuple XS] = some (.list XS) := rfl
  obtain ⟨env, s2, lp, F, ⟨v6, rfl⟩, rfl, hF⟩ := forL_goI (g := gN 6) (b := d__law_bent_stones_l1) (fun i env st' => ∃ F, (∃ v6, env = [some (.d (.tuple XS)), some (.d (.int ((k : Int)))), some (.d (.int (s))), some (.d (.int (l))), some (.r st.length), some (.d (.list [.tuple [.int (s + 1), .int l], .tuple [.int (s - 1), .int l], .tuple [.int s, .int (l + 1)], .tuple [.int s, .int 0], .tuple [.int s, .int 21], .tuple [.int (-1), .int l], .tuple [.bool true, .int l], .tuple [.int s, .bool true], .tuple [.int s, .none], .tuple [.int s], .tuple [.int s, .int l, .int 1], .list [.int s, .int l], .none])), v6]) ∧ st' = st ++ [.lst F] ∧ F.length = 7 + i)
    [.tuple [.int (s + 1), .int l], .tuple [.int (s - 1), .int l], .tuple [.int s, .int (l + 1)], .tuple [.int s, .int 0], .tuple [.int s, .int 21], .tuple [.int (-1), .int l], .tuple [.bool true, .int l], .tuple [.int s, .bool true], .tuple [.int s, .none], .tuple [.int s], .tuple [.int s, .int l, .int 1], .list [.int s, .int l], .none, .int s, .tuple [.int s, .int 100000000000000000000000000000]] 0 (fun i d hd env st' hI => by
    rw [Nat.zero_add] at hI ⊢
    obtain ⟨F, ⟨v6, rfl⟩, rfl, hF⟩ := hI
    have hi : i < 15 := by have := (List.getElem?_eq_some_iff.mp hd).1; simpa using this
    have gt : (st ++ [Ob.lst F])[st.length]? = some (.lst F) := by simp
    have il := isLst_l gt
    have ap := appW_l gt (by omega) (.tuple (XS.take k ++ [d] ++ XS.drop (k + 1)))
    rw [show (st ++ [Ob.lst F]).set st.length (.lst (F ++ [.tuple (XS.take k ++ [d] ++ XS.drop (k + 1))])) = st ++ [.lst (F ++ [.tuple (XS.take k ++ [d] ++ XS.drop (k + 1))])] by simp] at ap
    have e3 := d3 d
    have e4 := d4 d
    refine ⟨_, _, _, rfl, ?_, F ++ [.tuple (XS.take k ++ [d] ++ XS.drop (k + 1))], ⟨some (.d d), rfl⟩, rfl, by simp [hF]; omega⟩
    clear hd
    generalize PyData.tuple (XS.take k ++ [d] ++ XS.drop (k + 1)) = R at *
    generalize PyData.tuple (XS.take k ++ [d]) = R1 at *
    generalize PyData.list [.tuple [.int (s + 1), .int l], .tuple [.int (s - 1), .int l], .tuple [.int s, .int (l + 1)], .tuple [.int s, .int 0], .tuple [.int s, .int 21], .tuple [.int (-1), .int l], .tuple [.bool true, .int l], .tuple [.int s, .bool true], .tuple [.int s, .none], .tuple [.int s], .tuple [.int s, .int l, .int 1], .list [.int s, .int l], .none] = OL at *
    have t1 : ∀ st, tupW [.d d] st = .ok (.d (.tuple [d])) st := fun st => rfl
    generalize PyData.tuple [d] = D1 at *
    show d__law_bent_stones_l1 [some (.d (.tuple XS)), some (.d (.int ((k : Int)))), some (.d (.int (s))), some (.d (.int (l))), some (.r st.length), some (.d OL), some (.d d)] _ = _
    generalize PyData.tuple XS = PX at *
    generalize PyData.tuple (XS.take k) = PA at *
    generalize PyData.tuple (XS.drop (k + 1)) = PB at *
    unfold d__law_bent_stones_l1
    simp -implicitDefEqProofs [il, a1, a4, k1, e3, e4, t1, ap, -o_sl_t, -Int.natCast_add])
    [some (.d (.tuple XS)), some (.d (.int ((k : Int)))), some (.d (.int (s))), some (.d (.int (l))), some (.r st.length), some (.d (.list [.tuple [.int (s + 1), .int l], .tuple [.int (s - 1), .int l], .tuple [.int s, .int (l + 1)], .tuple [.int s, .int 0], .tuple [.int s, .int 21], .tuple [.int (-1), .int l], .tuple [.bool true, .int l], .tuple [.int s, .bool true], .tuple [.int s, .none], .tuple [.int s], .tuple [.int s, .int l, .int 1], .list [.int s, .int l], .none])), none]
    (st ++ [.lst [.tuple (XS.take k ++ XS.drop (k + 1)), .tuple (XS.take (k + 1) ++ XS.drop k), .tuple XS.reverse, .list XS, .tuple [], .none, .tuple (cutD M none (some 13))]]) ⟨_, ⟨none, rfl⟩, rfl, rfl⟩
  refine ⟨F, ?_, by rw [hF]; simp⟩
  have t0 : ∀ st, tupW [] st = .ok (.d (.tuple [])) st := fun st => rfl
  have t1 : ∀ a st, tupW [.d a] st = .ok (.d (.tuple [a])) st := fun a st => rfl
  have t2 : ∀ a b st, tupW [.d a, .d b] st = .ok (.d (.tuple [a, b])) st := fun a b st => rfl
  have t3 : ∀ a b c st, tupW [.d a, .d b, .d c] st = .ok (.d (.tuple [a, b, c])) st := fun a b c st => rfl
  have lw2 : ∀ a b st, lstW [.d a, .d b] st = .ok (.d (.list [a, b])) st := fun a b st => rfl
  have lw6 : ∀ a b c d e f st, lstW [.d a, .d b, .d c, .d d, .d e, .d f] st = .ok (.d (.list [a, b, c, d, e, f])) st := fun a b c d e f st => rfl
  have lw7 : ∀ a b c d e f g st, lstW [.d a, .d b, .d c, .d d, .d e, .d f, .d g] st = .ok (.d (.list [a, b, c, d, e, f, g])) st := fun a b c d e f g st => rfl
  have pw : powD (.int 10) (.int 29) = some (.int 100000000000000000000000000000) := rfl
  have nw : ∀ a b c d e f st, newW [.d a, .d b, .d c, .d d, .d e, .d f] st = .ok (.r st.length) (st ++ [.lst [a, b, c, d, e, f]]) := fun a b c d e f st => rfl
  have g0 : (st ++ [Ob.lst [.tuple (XS.take k ++ XS.drop (k + 1)), .tuple (XS.take (k + 1) ++ XS.drop k), .tuple XS.reverse, .list XS, .tuple [], .none]])[st.length]? = some (.lst [.tuple (XS.take k ++ XS.drop (k + 1)), .tuple (XS.take (k + 1) ++ XS.drop k), .tuple XS.reverse, .list XS, .tuple [], .none]) := by simp
  have il := isLst_l g0
  have ap := appW_l g0 (by simp) (.tuple (cutD M none (some 13)))
  rw [show (st ++ [Ob.lst [.tuple (XS.take k ++ XS.drop (k + 1)), .tuple (XS.take (k + 1) ++ XS.drop k), .tuple XS.reverse, .list XS, .tuple [], .none]]).set st.length (.lst ([.tuple (XS.take k ++ XS.drop (k + 1)), .tuple (XS.take (k + 1) ++ XS.drop k), .tuple XS.reverse, .list XS, .tuple [], .none] ++ [.tuple (cutD M none (some 13))])) = st ++ [.lst [.tuple (XS.take k ++ XS.drop (k + 1)), .tuple (XS.take (k + 1) ++ XS.drop k), .tuple XS.reverse, .list XS, .tuple [], .none, .tuple (cutD M none (some 13))]] by simp] at ap
  have gt : (st ++ [Ob.lst F])[st.length]? = some (.lst F) := by simp
  clear d3 d4 g0
  generalize PyData.tuple (cutD M none (some 13)) = MC at *
  generalize PyData.tuple (XS.take k ++ XS.drop (k + 1)) = P1 at *
  generalize PyData.tuple (XS.take (k + 1) ++ XS.drop k) = P2 at *
  generalize PyData.tuple XS.reverse = P3 at *
  generalize PyData.list XS = P4 at *
  generalize PyData.tuple (XS.take k) = PA at *
  generalize PyData.tuple (XS.drop (k + 1)) = PB at *
  generalize PyData.tuple (XS.take (k + 1)) = PC at *
  generalize PyData.tuple (XS.drop k) = PE at *
  generalize PyData.tuple XS = PX at *
  unfold m__law_bent_stones d__law_bent_stones
  simp -implicitDefEqProofs [ix, a1, a2, a3, a4, k1, d1, d2, mu, ms, rv, lsx, t0, t1, t2, t3, lw2, lw6, lw7, pw, nw, il, ap, srcW_dl, lp, x_end_fr (Nat.le_refl _) gt, -forL_cons, -o_sl_t, -o_mul_t, -Int.natCast_add]
end
section
variable [Tbl] [FnA]
/-- what is laid: tuples of pairs, none empty, none longer than twelve -/
def StsD (d : PyData) : Prop := ∃ XS, d = .tuple XS ∧ (1 ≤ XS.length ∧ XS.length ≤ 12) ∧ ∀ e ∈ XS, ∃ s l, e = .tuple [.int s, .int l]
theorem r_bent_laid {p : Nat} {st : Sto} (h : Pen p st) {LS : List PyData} (hn : 1 ≤ LS.length ∧ LS.length ≤ 6) (hs : ∀ d ∈ LS, StsD d) : ∃ (F : List PyData) (st' : Sto), m__law_bent_laid [.r p, .d (.tuple LS)] st = .ok (.d (.list F)) st' ∧ F.length ≤ 1000 ∧ Pn p st st' := by
  obtain ⟨k, s1, e1, a1, b1, c1⟩ := r_draw (LS.length : Int) h (by omega) (by omega)
  obtain ⟨k, rfl⟩ := Int.eq_ofNat_of_zero_le a1
  have hk : k < LS.length := by omega
  obtain ⟨XS, eX, hX, hp⟩ := hs _ (List.getElem_mem hk)
  obtain ⟨j, s2, e2, a2, b2, c2⟩ := r_draw (XS.length : Int) c1.pen (by omega) (by omega)
  obtain ⟨j, rfl⟩ := Int.eq_ofNat_of_zero_le a2
  have hj : j < XS.length := by omega
  obtain ⟨s, l, eP⟩ := hp _ (List.getElem_mem hj)
  obtain ⟨F, e3, hF⟩ := r_bent_stones hX hj (s := s) (l := l) (by rw [List.getElem?_eq_getElem hj, eP]) s2
  have ix : ixD (.tuple LS) (.int (k : Int)) = some (.tuple XS) := by
    show atD LS (k : Int) = _
    rw [atD_nat, List.getElem?_eq_getElem hk, eX]
  have i0 : ∃ z, ixD (.tuple LS) (.int 0) = some z := by
    refine ⟨LS[0]'(by omega), ?_⟩
    show atD LS ((0 : Nat) : Int) = _
    rw [atD_nat, List.getElem?_eq_getElem (by omega)]
  obtain ⟨z, i0⟩ := i0
  have f1 := cut_a LS k
  have f2 := cut_b LS (k + 1)
  have k1 : ((k : Int) + 1) = ((k + 1 : Nat) : Int) := by omega
  have lt1 : (LS.take k).length ≤ 6 := by rw [List.length_take]; omega
  have lt2 : (LS.drop (k + 1)).length ≤ 6 := by rw [List.length_drop]; omega
  have d1 := addT (xs := LS.take k) (ys := LS.drop (k + 1)) (by omega)
  have d3 := fun d : PyData => addT (xs := LS.take k) (ys := [d]) (by simp; omega)
  have d4 := fun d : PyData => addT (xs := LS.take k ++ [d]) (ys := LS.drop (k + 1)) (by simp; omega)
  have d5 := addT (xs := LS) (ys := cutD LS (some (-1)) none) (by have := cutD_len (xs := LS) (lo := some (-1)) (hi := none); omega)
  have sm : slD (some (-1)) none (.tuple LS) = some (.tuple (cutD LS (some (-1)) none)) := rfl
  have rv : revD (.tuple LS) = some (.tuple LS.reverse) := rfl
  have lsx : lstF [.tuple LS] = some (.list LS) := rfl
  have lc := lcL_mapE (g := gN 5) (c := eOp2 addD (eOp2 addD (eSlice (eVar 1) pNo (pSome (eVar 2))) (eTup (aCons (eVar 5) aNil))) (eSlice (eVar 1) (pSome (eOp2 addD (eVar 2) (eK (.int 1)))) pNo)) (env := [some (.r p), some (.d (.tuple LS)), some (.d (.int ((k : Int)))), none, none, none]) (st := s2) (fun d => d) (fun d => .tuple (LS.take k ++ [d] ++ LS.drop (k + 1))) F [] (fun d _ => by
    have e3 := d3 d
    have e4 := d4 d
    have t1 : ∀ st, tupW [.d d] st = .ok (.d (.tuple [d])) st := fun st => rfl
    refine ⟨_, rfl, ?_⟩
    show (eOp2 addD (eOp2 addD (eSlice (eVar 1) pNo (pSome (eVar 2))) (eTup (aCons (eVar 5) aNil))) (eSlice (eVar 1) (pSome (eOp2 addD (eVar 2) (eK (.int 1)))) pNo)) [some (.r p), some (.d (.tuple LS)), some (.d (.int ((k : Int)))), none, none, some (.d d)] s2 = _
    generalize PyData.tuple [d] = D1 at *
    simp -implicitDefEqProofs [f1, f2, k1, e3, e4, t1, -o_sl_t, -Int.natCast_add])
  rw [List.nil_append, List.map_id'] at lc
  have lL : lenF [.tuple LS] = some (.int (LS.length : Int)) := by simp
  have lX : lenF [.tuple XS] = some (.int (XS.length : Int)) := by simp
  have t0 : ∀ st, tupW [] st = .ok (.d (.tuple [])) st := fun st => rfl
  have lw : ∀ a b c d e f g i st, lstW [.d a, .d b, .d c, .d d, .d e, .d f, .d g, .d i] st = .ok (.d (.list [a, b, c, d, e, f, g, i])) st := fun a b c d e f g i st => rfl
  have lF : F.length ≤ 1000000 := by omega
  have c12 := c1.trans c2
  have tk : s2.take st.length = s2 := by rw [← c12.len]; simp
  have dl := fun Y : List PyData => fun h : Y.length ≤ 100 => addL (xs := F.map fun d => .tuple (LS.take k ++ [d] ++ LS.drop (k + 1))) (ys := Y) (by rw [List.length_map]; omega)
  have dl2 := dl [.tuple (LS.take k ++ LS.drop (k + 1)), .tuple (LS ++ cutD LS (some (-1)) none), .tuple LS.reverse, .list LS, .tuple [], .none, z, .str "laid"] (by simp)
  refine ⟨(F.map fun d => .tuple (LS.take k ++ [d] ++ LS.drop (k + 1))) ++ [.tuple (LS.take k ++ LS.drop (k + 1)), .tuple (LS ++ cutD LS (some (-1)) none), .tuple LS.reverse, .list LS, .tuple [], .none, z, .str "laid"], s2, ?_, ?_, c12⟩
  · clear dl d3 d4 hs hp eX
    generalize hMF : (F.map fun d => PyData.tuple (LS.take k ++ [d] ++ LS.drop (k + 1))) = MF at *
    generalize PyData.list LS = P4 at *
    generalize PyData.tuple LS.reverse = P3 at *
    generalize PyData.tuple (LS ++ cutD LS (some (-1)) none) = P2 at *
    generalize PyData.tuple (LS.take k ++ LS.drop (k + 1)) = P1 at *
    generalize PyData.tuple (LS.take k) = PA at *
    generalize PyData.tuple (LS.drop (k + 1)) = PB at *
    generalize PyData.tuple (cutD LS (some (-1)) none) = PC at *
    generalize PyData.tuple LS = PL at *
    generalize PyData.tuple XS = PX at *
    generalize (LS.length : Int) = N at *
    generalize (XS.length : Int) = N2 at *
    unfold m__law_bent_laid d__law_bent_laid
    simp -implicitDefEqProofs [lL, e1, ix, lX, e2, e3, srcW_dl, lF, lc, wipeE, f1, f2, k1, d1, sm, d5, rv, lsx, t0, i0, lw, dl2, tk, -o_sl_t, -Int.natCast_add, -o_add_l, -o_add_t]
  · rw [List.length_append, List.length_map]
    simp
    omega
end
section
variable [Tbl] [FnA]
/-! ## rows, one in another -/
theorem es_is (c : En → Sto → Rs Wv) (env : En) (st : Sto) : eSaid told__law_word fl__law_word c env st = saidR (some "told") fl__law_word st.length (c env st) := rfl
/-- whatever is no tuple of rows -/
def NoRows (d : PyData) : Prop := ∀ st, m_need_rows [.d d] st = .ex ⟨"NoRow", []⟩ st
theorem nrs_else {d : PyData} (h : ∀ xs, d ≠ .tuple xs) : NoRows d := fun st => by
  unfold m_need_rows d_need_rows
  cases d with
  | tuple xs => exact absurd rfl (h xs)
  | _ => simp -implicitDefEqProofs
theorem nrs_long {xs : List PyData} (h : 6 < xs.length) : NoRows (.tuple xs) := fun st => by
  have h2 : (xs.length : Int) > 6 := by omega
  unfold m_need_rows d_need_rows
  simp -implicitDefEqProofs [w_MOST_ROWS, h2]
theorem a1_turn {d : PyData} (h : NoRows d) (v0 v2 v3 v4 : Option Wv) (st : Sto) : d__law_rows_right_l1 [v0, some (.d d), v2, v3, v4, none, none] st = .nx [v0, none, v2, v3, v4, none, none] st := by
  have n1 := fun st => h st
  have e1 : ∀ st, m_first_over [.d d] st = .ex ⟨"NoRow", []⟩ st := fun st => by
    unfold m_first_over d_first_over
    simp -implicitDefEqProofs [n1]
  have e2 : ∀ st, m_area_of [.d d] st = .ex ⟨"NoRow", []⟩ st := fun st => by
    unfold m_area_of d_area_of
    simp -implicitDefEqProofs [n1]
  have tk : ∀ st : Sto, st.take st.length = st := fun st => List.take_length
  have sx := fun st => saidR_ex (some "told") fl__law_word st.length fl_R st
  have cl : ∀ (x : Str) (mf : List Wv → Sto → Rs Wv), List.lookup x [("first_over", m_first_over), ("area_of", m_area_of)] = some mf → (∀ st, mf [.d d] st = .ex ⟨"NoRow", []⟩ st) → ∀ st, eSaid told__law_word fl__law_word (eCallV (fun x => List.lookup x [("first_over", m_first_over), ("area_of", m_area_of)]) 6 (aCons (eVar 1) aNil)) [v0, some (.d d), v2, v3, v4, none, some (fnv x)] st = .ok (.d (.tuple [.str "row"])) st := fun x mf h1 h2 st => by
    rw [es_is, x_callV (i := 6) (x := x) (mf := mf) rfl h1]
    show saidR (some "told") fl__law_word st.length (mf [.d d] st) = _
    rw [h2, sx, tk]
  have c1 := cl "first_over" m_first_over rfl e1
  have c2 := cl "area_of" m_area_of rfl e2
  have lf : ∀ st, eLcF ["first_over", "area_of"] 6 (eSaid told__law_word fl__law_word (eCallV (fun x => List.lookup x [("first_over", m_first_over), ("area_of", m_area_of)]) 6 (aCons (eVar 1) aNil))) [5, 6] [v0, some (.d d), v2, v3, v4, none, none] st = .ok (.d (.list [.tuple [.str "row"], .tuple [.str "row"]])) st := fun st => by
    rw [x_lcF, goF_cons (c1 st), goF_cons (c2 st), goF_nil]
    rfl
  have tw : ∀ st, tupW [.d (.str "row")] st = .ok (.d (.tuple [.str "row"])) st := fun st => rfl
  have lw : ∀ a st, lstW [.d a] st = .ok (.d (.list [a])) st := fun a st => rfl
  have mu : mulD (.list [.tuple [.str "row"]]) (.int 2) = some (.list [.tuple [.str "row"], .tuple [.str "row"]]) := rfl
  have q : neD (.list [.tuple [.str "row"], .tuple [.str "row"]]) (.list [.tuple [.str "row"], .tuple [.str "row"]]) = some (.bool false) := rfl
  clear c1 c2 cl
  generalize PyData.tuple [.str "row"] = W at *
  unfold d__law_rows_right_l1
  simp -implicitDefEqProofs [lf, tw, lw, mu, q, wipeE, -o_mul_l, -x_lcF]
end
section
variable [Tbl] [FnA]
theorem nrs_ok (L : List PyData) (hl : L.length ≤ 6) (h : ∀ d ∈ L, IsRow d) (st : Sto) : m_need_rows [.d (.tuple L)] st = .ok (.d .none) st := by
  have e1 := lcL_mapE (g := gN 2) (c := eCall m_is_row (aCons (eVar 2) aNil)) (env := [some (.d (.tuple L)), none, none]) (st := st) (fun d : PyData => d) (fun _ => .bool true) L [] (fun d hd => by
    have e := fun st => h d hd st
    refine ⟨_, rfl, ?_⟩
    show (eCall m_is_row (aCons (eVar 2) aNil)) [some (.d (.tuple L)), none, some (.d d)] st = _
    simp -implicitDefEqProofs [e])
  have oa := o_all' L (fun _ => true)
  rw [show (L.all fun _ => true) = true from List.all_eq_true.mpr fun _ _ => rfl] at oa
  rw [List.nil_append, List.map_id'] at e1
  have l1 : ¬ (L.length : Int) > 6 := by omega
  have l2 : L.length ≤ 1000000 := by omega
  generalize L.map (fun _ => PyData.bool true) = BB at *
  unfold m_need_rows d_need_rows
  simp -implicitDefEqProofs [w_MOST_ROWS, l1, l2, srcW_dt, e1, oa, wipeE]
theorem a3_turn {r x y : PyData} (hr : IsRow r) (h : isWhole x = false ∨ isWhole y = false) (v1 v2 : Option Wv) (st : Sto) : d__law_rows_right_l3 [some (.d r), v1, v2, some (.d x), some (.d y), none, none] st = .nx [some (.d r), v1, v2, none, none, none, none] st := by
  have n1 : ∀ st, m_need_rows [.d (.tuple [r])] st = .ok (.d .none) st := fun st => nrs_ok [r] (by simp) (fun d hd => by rw [List.mem_singleton.mp hd]; exact hr) st
  have n2 : ∀ st, m_need_square [.d x, .d y] st = .ex ⟨"NoPlace", []⟩ st := fun st => by
    have w1 := fun st => r_is_whole x st
    have w2 := fun st => r_is_whole y st
    unfold m_need_square d_need_square
    cases hx : isWhole x with
    | false =>
      rw [hx] at w1
      simp -implicitDefEqProofs [w1]
    | true =>
      have hy := h.resolve_left (by rw [hx]; simp)
      rw [hx] at w1
      rw [hy] at w2
      simp -implicitDefEqProofs [w1, w2]
  have e1 : ∀ st, m_at_square [.d (.tuple [r]), .d x, .d y] st = .ex ⟨"NoPlace", []⟩ st := fun st => by
    unfold m_at_square d_at_square
    simp -implicitDefEqProofs [n1, n2]
  have tk : ∀ st : Sto, st.take st.length = st := fun st => List.take_length
  have sx := fun st => saidR_ex (some "told") fl__law_word st.length fl_L st
  have tw : ∀ st, tupW [.d (.str "place")] st = .ok (.d (.tuple [.str "place"])) st := fun st => rfl
  have tr : ∀ st, tupW [.d r] st = .ok (.d (.tuple [r])) st := fun st => rfl
  have q : neD (.tuple [.str "place"]) (.tuple [.str "place"]) = some (.bool false) := rfl
  generalize PyData.tuple [.str "place"] = W at *
  generalize PyData.tuple [r] = RT at *
  unfold d__law_rows_right_l3
  simp -implicitDefEqProofs [es_is, tr, e1, sx, tk, tw, q, wipeE]
theorem nj_bad : ∀ d ∈ [PyData.none, .tuple [.int 2, .int 1], .tuple [.int 0, .int 10], .list [.int 0, .int 1]], ∀ st, m_need_joints [.d d] st = .ex ⟨"NoJoints", []⟩ st := fun d hd st => by
  simp only [List.mem_cons, List.not_mem_nil, or_false] at hd
  rcases hd with rfl | rfl | rfl | rfl <;> unfold m_need_joints d_need_joints m_are_joints d_are_joints <;> simp -implicitDefEqProofs [r_is_from_to, w_MOST_JOINT, isFT]
theorem ij_bad {r : PyData} (hr : IsRow r) : ∀ d ∈ [PyData.none, .tuple [.int 2, .int 1], .tuple [.int 0, .int 10], .list [.int 0, .int 1]], ∀ st, m_in_joints [.d r, .d d] st = .ex ⟨"NoJoints", []⟩ st := fun d hd st => by
  have n1 := fun st => nr_ok hr st
  have n2 := nj_bad d hd
  unfold m_in_joints d_in_joints
  simp -implicitDefEqProofs [n1, n2]
end
section
variable [Tbl] [FnA]
def c2 (q : Int × Int) : PyData := .tuple [.int q.1, .int q.2]
abbrev Rc := Int × Int × Int × Int
def rc (w : Nat) (x y W s e : Int) : Rc := match w with
  | 0 => (x + s, y, x + e, y + W)
  | 1 => (x - W, y + s, x, y + e)
  | 2 => (x - e, y - W, x - s, y)
  | _ => (x, y - e, x + W, y - s)
def rcD (q : Rc) : PyData := .tuple [.int q.1, .int q.2.1, .int q.2.2.1, .int q.2.2.2]
theorem r_rectangle {w : Nat} (h : w < 4) (x y l W s e : Int) (st : Sto) : m_rectangle [.d (.tuple [.int x, .int y, .str (wayS w), .int l]), (.d (.int (W))), (.d (.int (s))), (.d (.int (e)))] st = .ok (.d (rcD (rc w x y W s e))) st := by
  have e1 : (("east" : Str) == "north") = false := by decide +kernel
  have e2 : (("east" : Str) == "west") = false := by decide +kernel
  have e3 : (("north" : Str) == "east") = false := by decide +kernel
  have e4 : (("west" : Str) == "east") = false := by decide +kernel
  have e5 : (("west" : Str) == "north") = false := by decide +kernel
  have e6 : (("south" : Str) == "east") = false := by decide +kernel
  have e7 : (("south" : Str) == "north") = false := by decide +kernel
  have e8 : (("south" : Str) == "west") = false := by decide +kernel
  unfold m_rectangle d_rectangle
  rcases w4 h with rfl | rfl | rfl | rfl <;> simp -implicitDefEqProofs [wayS, e1, e2, e3, e4, e5, e6, e7, e8, tupW, rcD, rc]
def covB (a b : Rc) : Bool := decide (a.1 < b.2.2.1) && (decide (b.1 < a.2.2.1) && (decide (a.2.1 < b.2.2.2) && decide (b.2.1 < a.2.2.2)))
theorem rc_shift {w : Nat} (h : w < 4) (x y W s l : Int) : rc w x y W s (s + l) = rc w (x + s * dx w) (y + s * dy w) W 0 l := by
  rcases w4 h with rfl | rfl | rfl | rfl <;> simp only [rc, dx, dy, Prod.mk.injEq] <;> omega
/-! ## rows: a path, a width, stones along each strip -/
abbrev Sts := List (Int × Int)
def stsD (t : Sts) : PyData := .tuple (t.map c2)
def SOk (L : Int) : Int → Sts → Prop
  | _, [] => True
  | e, q :: r => e ≤ q.1 ∧ 1 ≤ q.2 ∧ q.2 ≤ 20 ∧ q.1 + q.2 ≤ L ∧ SOk L (q.1 + q.2) r
theorem SOk.at' {L : Int} : ∀ {t : Sts} {e : Int}, 0 ≤ e → SOk L e t → ∀ q ∈ t, e ≤ q.1 ∧ 1 ≤ q.2 ∧ q.2 ≤ 20 ∧ q.1 + q.2 ≤ L
  | q0 :: t, e, he, h, q, hq => by
    obtain ⟨h1, h2, h3, h4, h5⟩ := h
    rcases List.mem_cons.mp hq with rfl | hq
    · exact ⟨h1, h2, h3, h4⟩
    · have := SOk.at' (by omega) h5 q hq
      omega
structure Row where
  x : Int
  y : Int
  lg : Lgs
  W : Int
  laid : List Sts
def rowD (r : Row) : PyData := .tuple [ptD r.x r.y r.lg, .int r.W, .tuple (r.laid.map stsD)]
def lay (r : Row) (k : Nat) : Sts := (r.laid[k]?).getD []
structure RwOk (r : Row) : Prop where
  P : Pt r.x r.y r.lg
  w : 1 ≤ r.W ∧ r.W ≤ 9
  ok : ∀ k, k < r.lg.length → 1 ≤ he r.lg r.W k
  n : r.laid.length = r.lg.length
  s : ∀ k, k < r.lg.length → (1 ≤ (lay r k).length ∧ (lay r k).length ≤ 12) ∧ SOk (he r.lg r.W k) 0 (lay r k)
theorem laid_rng {r : Row} (h : r.laid.length = r.lg.length) : r.laid.map stsD = (List.range r.lg.length).map fun k => stsD (lay r k) := by
  refine List.ext_getElem (by simp [h]) fun i h1 h2 => ?_
  have hi : i < r.laid.length := by simpa using h1
  simp only [List.getElem_map, List.getElem_range, lay]
  rw [List.getElem?_eq_getElem hi]
  rfl
/-- a stone's place: its strip's way, where it begins, the width, how long it is -/
structure Bx where
  w : Nat
  x : Int
  y : Int
  W : Nat
  l : Nat
def bx (r : Row) (k : Nat) (q : Int × Int) : Bx := ⟨wy r.lg k, sx r.lg r.x r.W k + q.1 * dx (wy r.lg k), sy r.lg r.y r.W k + q.1 * dy (wy r.lg k), r.W.toNat, q.2.toNat⟩
def rcB (b : Bx) : Rc := rc b.w b.x b.y (b.W : Int) 0 (b.l : Int)
structure BOk (b : Bx) : Prop where
  w : b.w < 4
  W : 0 < b.W ∧ b.W ≤ 9
  l : 0 < b.l ∧ b.l ≤ 20
def bxK (r : Row) (k : Nat) : List Bx := (lay r k).map (bx r k)
def bxs (r : Row) : List Bx := (List.range r.lg.length).flatMap (bxK r)
theorem RwOk.st {r : Row} (R : RwOk r) {k : Nat} (hk : k < r.lg.length) {q : Int × Int} (hq : q ∈ lay r k) : 0 ≤ q.1 ∧ 1 ≤ q.2 ∧ q.2 ≤ 20 ∧ q.1 + q.2 ≤ he r.lg r.W k := (R.s k hk).2.at' (by decide) q hq
theorem RwOk.bk {r : Row} (R : RwOk r) {k : Nat} (hk : k < r.lg.length) {b : Bx} (hb : b ∈ bxK r k) : BOk b := by
  obtain ⟨q, hq, rfl⟩ := List.mem_map.mp hb
  have h := R.st hk hq
  have w := R.w
  exact ⟨(R.P.k hk).1, ⟨by show 0 < r.W.toNat; omega, by show r.W.toNat ≤ 9; omega⟩, by show 0 < q.2.toNat; omega, by show q.2.toNat ≤ 20; omega⟩
theorem RwOk.b {r : Row} (R : RwOk r) {b : Bx} (hb : b ∈ bxs r) : BOk b := by
  obtain ⟨k, hk, hb⟩ := List.mem_flatMap.mp hb
  exact R.bk (List.mem_range.mp hk) hb
theorem flat_le {α : Type} (f : Nat → List α) (m : Nat) : ∀ n, (∀ k, k < n → (f k).length ≤ m) → ((List.range n).flatMap f).length ≤ n * m
  | 0, _ => by simp
  | n + 1, h => by
    rw [List.range_succ, List.flatMap_append, List.length_append, Nat.succ_mul]
    have h1 := flat_le f m n fun k hk => h k (by omega)
    have h2 := h n (Nat.lt_succ_self n)
    have h3 : (List.flatMap f [n]).length = (f n).length := by simp
    omega
theorem RwOk.len {r : Row} (R : RwOk r) : (bxs r).length ≤ 72 := by
  have := flat_le (bxK r) 12 r.lg.length fun k hk => by unfold bxK; rw [List.length_map]; exact (R.s k hk).1.2
  have := R.P.n
  show ((List.range r.lg.length).flatMap (bxK r)).length ≤ 72
  omega
/-- the rectangle of a stone -/
theorem rcB_rk {r : Row} (R : RwOk r) {k : Nat} (hk : k < r.lg.length) {q : Int × Int} (hq : q ∈ lay r k) : rc (wy r.lg k) (sx r.lg r.x r.W k) (sy r.lg r.y r.W k) r.W q.1 (q.1 + q.2) = rcB (bx r k q) := by
  have h := R.st hk hq
  have w := R.w
  rw [rc_shift (R.P.k hk).1]
  show _ = rc _ _ _ ((r.W.toNat : Nat) : Int) 0 ((q.2.toNat : Nat) : Int)
  rw [show ((r.W.toNat : Nat) : Int) = r.W by omega, show ((q.2.toNat : Nat) : Int) = q.2 by omega]
  rfl
end
section
variable [Tbl] [FnA]
/-! ## what is looked at: stones, rows -/
def endOf : Int → Sts → Int
  | e, [] => e
  | _, q :: r => endOf (q.1 + q.2) r
theorem as_loop {L : Int} (th : PyData) (st : Sto) : ∀ (t : Sts) (e : Int), SOk L e t → forL (gN 3) d_are_stones_l1 [] (t.map c2) [some (.d th), some (.d (.int (L))), some (.d (.int (e))), none] st = .nx [some (.d th), some (.d (.int (L))), some (.d (.int (endOf e t))), none] st
  | [], e, _ => by simp [endOf, forL]
  | q :: t, e, h => by
    obtain ⟨h1, h2, h3, h4, h5⟩ := h
    have f1 : isFT (.int q.2) 1 20 = true := by simp [isFT, h2, h3]
    have f2 : isFT (.int q.1) e (L - q.2) = true := by simp [isFT, h1]; omega
    have tn : d_are_stones_l1 [some (.d th), some (.d (.int (L))), some (.d (.int (e))), some (.d (c2 q))] st = .nx [some (.d th), some (.d (.int (L))), some (.d (.int (q.1 + q.2))), none] st := by
      unfold d_are_stones_l1 c2
      simp -implicitDefEqProofs [r_is_from_to, w_MOST_STONE, f1, f2, wipeE]
    have ih := as_loop th st t (q.1 + q.2) h5
    have g1 : gN 3 (.d (c2 q)) [some (.d th), some (.d (.int (L))), some (.d (.int (e))), none] = some [some (.d th), some (.d (.int (L))), some (.d (.int (e))), some (.d (c2 q))] := rfl
    rw [List.map_cons, forL_cons, g1]
    dsimp only
    rw [tn, SR.seq_nx, ih, endOf]
theorem r_are_stones {L : Int} {t : Sts} (hn : 1 ≤ t.length ∧ t.length ≤ 12) (h : SOk L 0 t) (st : Sto) : m_are_stones [.d (stsD t), (.d (.int (L)))] st = .ok (.d (.bool true)) st := by
  have lp := as_loop (stsD t) st t 0 h
  have e1 : ixN 1 0 = some 0 := rfl
  have l1 : (t.map c2).length = t.length := List.length_map ..
  unfold stsD at *
  generalize t.map c2 = T at *
  have a1 : (1 : Int) ≤ (T.length : Int) := by omega
  have a2 : (T.length : Int) ≤ 12 := by omega
  unfold m_are_stones d_are_stones
  simp -implicitDefEqProofs [w_MOST_STONES, a1, a2, srcW_dt, lp, -forL_cons]
theorem RwOk.none' {r : Row} (R : RwOk r) : (List.range r.lg.length).find? (fun k => decide (¬ 1 ≤ he r.lg r.W k)) = none := by
  refine List.find?_eq_none.mpr fun k hk => ?_
  have := R.ok k (List.mem_range.mp hk)
  simp only [decide_eq_true_eq]
  omega
theorem r_strips_ok {r : Row} (R : RwOk r) (st : Sto) : m_strips_by [.d (ptD r.x r.y r.lg), (.d (.int (r.W)))] st = .ok (.d (.list ((List.range r.lg.length).map (stD r.lg r.x r.y r.W)))) st := by
  have e := r_strips_by R.P R.w st
  rw [R.none'] at e
  exact e
theorem r_strips_or_none {r : Row} (R : RwOk r) (st : Sto) : m_strips_or_none [.d (rowD r)] st = .ok (.d (.list ((List.range r.lg.length).map (stD r.lg r.x r.y r.W)))) st := by
  have e := r_son R.P R.w (.tuple (r.laid.map stsD)) st
  unfold strO at e
  rw [R.none'] at e
  exact e
theorem zip_st (r : Row) (h : r.laid.length = r.lg.length) : List.zipWith pairD (r.laid.map stsD) ((List.range r.lg.length).map (stD r.lg r.x r.y r.W)) = (List.range r.lg.length).map fun k => pairD (stsD (lay r k)) (stD r.lg r.x r.y r.W k) := by
  rw [laid_rng h, List.zipWith_map, List.zipWith_self]
theorem r_is_row {r : Row} (R : RwOk r) (st : Sto) : m_is_row [.d (rowD r)] st = .ok (.d (.bool true)) st := by
  have e1 := fun st => r_strips_or_none R st
  have e2 := lcL_mapE (g := gTp (gCn (gN 3) (gCn (gN 4) gNl))) (c := eCall m_are_stones (aCons (eVar 3) (aCons (eOp2 ixD (eVar 4) (eK (.int 3))) aNil))) (env := [some (.d (rowD r)), some (.d (.list ((List.range r.lg.length).map (stD r.lg r.x r.y r.W)))), none, none, none]) (st := st) (fun k => pairD (stsD (lay r k)) (stD r.lg r.x r.y r.W k)) (fun _ => .bool true) (List.range r.lg.length) [] (fun k hk => by
    have hk2 := List.mem_range.mp hk
    have er := fun st => r_are_stones (R.s k hk2).1 (R.s k hk2).2 st
    refine ⟨_, rfl, ?_⟩
    show (eCall m_are_stones (aCons (eVar 3) (aCons (eOp2 ixD (eVar 4) (eK (.int 3))) aNil))) [some (.d (rowD r)), some (.d (.list ((List.range r.lg.length).map (stD r.lg r.x r.y r.W)))), none, some (.d (stsD (lay r k))), some (.d (stD r.lg r.x r.y r.W k))] st = _
    have e3 : ixD (stD r.lg r.x r.y r.W k) (.int 3) = some (.int (he r.lg r.W k)) := rfl
    generalize stsD (lay r k) = TT at *
    generalize stD r.lg r.x r.y r.W k = SK at *
    simp -implicitDefEqProofs [er, e3])
  rw [List.nil_append, ← zip_st r R.n] at e2
  have oa := o_all' (List.range r.lg.length) (fun _ => true)
  rw [show ((List.range r.lg.length).all fun _ => true) = true from List.all_eq_true.mpr fun _ _ => rfl] at oa
  have l1 : ((List.range r.lg.length).map (stD r.lg r.x r.y r.W)).length = r.lg.length := by simp
  have l2 : (r.laid.map stsD).length = r.lg.length := by simp [R.n]
  have l4 : r.lg.length ≤ 1000000 := by have := R.P.n; omega
  have l3 : (List.zipWith pairD (r.laid.map stsD) ((List.range r.lg.length).map (stD r.lg r.x r.y r.W))).length ≤ 1000000 := by rw [List.length_zipWith, l1, l2]; have := R.P.n; omega
  unfold rowD at *
  generalize (List.range r.lg.length).map (stD r.lg r.x r.y r.W) = SS at *
  generalize (List.range r.lg.length).map (fun _ => PyData.bool true) = BB at *
  generalize r.laid.map stsD = LL at *
  generalize ptD r.x r.y r.lg = PD at *
  unfold m_is_row d_is_row
  simp -implicitDefEqProofs [e1, l1, l2, l4, zip2W, l3, e2, oa, wipeE]
def rowsD (rs : List Row) : PyData := .tuple (rs.map rowD)
theorem r_need_rows {rs : List Row} (hn : rs.length ≤ 6) (h : ∀ r ∈ rs, RwOk r) (st : Sto) : m_need_rows [.d (rowsD rs)] st = .ok (.d .none) st := by
  have e2 := lcL_mapE (g := gN 2) (c := eCall m_is_row (aCons (eVar 2) aNil)) (env := [some (.d (rowsD rs)), none, none]) (st := st) rowD (fun _ => .bool true) rs [] (fun r hr => by
    have er := fun st => r_is_row (h r hr) st
    refine ⟨_, rfl, ?_⟩
    show (eCall m_is_row (aCons (eVar 2) aNil)) [some (.d (rowsD rs)), none, some (.d (rowD r))] st = _
    generalize rowD r = RD at *
    simp -implicitDefEqProofs [er])
  rw [List.nil_append] at e2
  have oa := o_all' rs (fun _ => true)
  rw [show (rs.all fun _ => true) = true from List.all_eq_true.mpr fun _ _ => rfl] at oa
  have l1 : (rs.map rowD).length = rs.length := by simp
  have l2 : ¬ (6 : Int) < (rs.length : Int) := by omega
  have l3 : (rs.map rowD).length ≤ 1000000 := by omega
  have l4 : rs.length ≤ 1000000 := by omega
  unfold rowsD at *
  generalize rs.map (fun _ => PyData.bool true) = BB at *
  generalize rs.map rowD = RR at *
  unfold m_need_rows d_need_rows
  simp -implicitDefEqProofs [l1, l2, l3, l4, w_MOST_ROWS, srcW_dt, e2, oa, wipeE]
end
section
variable [Tbl] [FnA]
/-! ## all stones of rows -/
abbrev Nb := Nat × Nat × Bx
def enB (j : Nat) (B : List Bx) : List Nb := B.mapIdx fun s b => (j, s, b)
def rwB (rs : List Row) (j : Nat) : List Bx := ((rs[j]?).map bxs).getD []
def allN (rs : List Row) (i : Nat) : List Nb := (List.range i).flatMap fun j => enB j (rwB rs j)
def allB (rs : List Row) : List Nb := allN rs rs.length
theorem allN_succ (rs : List Row) (i : Nat) : allN rs (i + 1) = allN rs i ++ enB i (rwB rs i) := by
  unfold allN
  rw [List.range_succ, List.flatMap_append]
  simp
def eN (h : Bx → PyData) (p : Nb) : PyData := .tuple [.int p.1, .int p.2.1, h p.2.2]
def e1 (h : Bx → PyData) (p : Nb) : PyData := .tuple [.int p.2.1, h p.2.2]
theorem enum_B (h : Bx → PyData) (j : Nat) (B : List Bx) : enumD (B.map h) = (enB j B).map (e1 h) := by
  unfold enumD enB
  refine List.ext_getElem (by simp) fun i h1 h2 => ?_
  simp [e1]
theorem enB_len (j : Nat) (B : List Bx) : (enB j B).length = B.length := by simp [enB]
section
variable {rs : List Row} (hn : rs.length ≤ 6) (ok : ∀ r ∈ rs, RwOk r)
include ok
theorem rwB_at {j : Nat} {r : Row} (h : rs[j]? = some r) : rwB rs j = bxs r ∧ RwOk r := by
  refine ⟨by unfold rwB; rw [h]; rfl, ok r (List.mem_of_getElem? h)⟩
theorem rwB_len (j : Nat) : (rwB rs j).length ≤ 72 := by
  unfold rwB
  cases q : rs[j]? with
  | none => simp
  | some r => exact (ok r (List.mem_of_getElem? q)).len
theorem allN_len (i : Nat) : (allN rs i).length ≤ i * 72 := flat_le _ 72 i fun j _ => by rw [enB_len]; exact rwB_len ok j
end
/-! ## the rectangles of a row -/
def rcb (b : Bx) : PyData := rcD (rcB b)
theorem bxs_succ (r : Row) (k : Nat) : ((List.range (k + 1)).flatMap (bxK r)).map rcb = ((List.range k).flatMap (bxK r)).map rcb ++ (bxK r k).map rcb := by
  rw [List.range_succ, List.flatMap_append, List.map_append]
  simp
theorem r_rectangles {r : Row} (R : RwOk r) (st : Sto) : m_rectangles [.d (rowD r)] st = .ok (.d (.list ((bxs r).map rcb))) st := by
  have es := fun st => r_strips_ok R st
  have hn := R.P.n
  have lp := forL_at (g := gTp (gCn (gN 2) (gCn (gN 3) gNl))) (b := d_rectangles_l1) (fun _ => [some (.d (rowD r)), some (.r st.length), none, none, none, none, none]) (fun i => st ++ [.lst (((List.range i).flatMap (bxK r)).map rcb)]) ((List.range r.lg.length).map fun k => pairD (stsD (lay r k)) (stD r.lg r.x r.y r.W k)) (fun i x hx => by
    obtain ⟨hi, rfl⟩ := rng_get hx
    refine ⟨_, rfl, ?_⟩
    show d_rectangles_l1 [some (.d (rowD r)), some (.r st.length), some (.d (stsD (lay r i))), some (.d (stD r.lg r.x r.y r.W i)), none, none, none] _ = _
    generalize hst : (st ++ [Ob.lst (((List.range i).flatMap (bxK r)).map rcb)]) = st1
    have g1 : st1[st.length]? = some (.lst (((List.range i).flatMap (bxK r)).map rcb)) := by rw [← hst]; simp
    have e2 := lcL_mapE (g := gTp (gCn (gN 5) (gCn (gN 6) gNl))) (c := eCall m_rectangle (aCons (eVar 3) (aCons (eOp2 ixD (eVar 0) (eK (.int 1))) (aCons (eVar 5) (aCons (eOp2 addD (eVar 5) (eVar 6)) aNil))))) (env := [some (.d (rowD r)), some (.r st.length), some (.d (stsD (lay r i))), some (.d (stD r.lg r.x r.y r.W i)), none, none, none]) (st := st1) c2 (fun q => rcb (bx r i q)) (lay r i) [] (fun q hq => by
      have er := fun st => r_rectangle (R.P.k hi).1 (sx r.lg r.x r.W i) (sy r.lg r.y r.W i) (he r.lg r.W i) r.W q.1 (q.1 + q.2) st
      rw [rcB_rk R hi hq] at er
      have ew : ixD (rowD r) (.int 1) = some (.int r.W) := rfl
      refine ⟨_, rfl, ?_⟩
      show (eCall m_rectangle (aCons (eVar 3) (aCons (eOp2 ixD (eVar 0) (eK (.int 1))) (aCons (eVar 5) (aCons (eOp2 addD (eVar 5) (eVar 6)) aNil))))) [some (.d (rowD r)), some (.r st.length), some (.d (stsD (lay r i))), some (.d (.tuple [.int (sx r.lg r.x r.W i), .int (sy r.lg r.y r.W i), .str (wayS (wy r.lg i)), .int (he r.lg r.W i)])), none, some (.d (.int (q.1))), some (.d (.int (q.2)))] st1 = _
      unfold rcb
      generalize rowD r = RD at *
      generalize stsD (lay r i) = TT at *
      simp -implicitDefEqProofs [ew, er])
    rw [List.nil_append, show (lay r i).map (fun q => rcb (bx r i q)) = (bxK r i).map rcb from by unfold bxK; rw [List.map_map]; rfl] at e2
    have l1 := flat_le (bxK r) 12 i fun k hk => by unfold bxK; rw [List.length_map]; exact (R.s k (by omega)).1.2
    have l2 : (bxK r i).length ≤ 12 := by unfold bxK; rw [List.length_map]; exact (R.s i hi).1.2
    have ex := extW_l (ys := (bxK r i).map rcb) g1 (by rw [List.length_map, List.length_map]; omega)
    rw [← bxs_succ, show st1.set st.length (.lst (((List.range (i + 1)).flatMap (bxK r)).map rcb)) = st ++ [.lst (((List.range (i + 1)).flatMap (bxK r)).map rcb)] from by rw [← hst]; simp] at ex
    have il := isLst_l g1
    have l3 : ((lay r i).map c2).length ≤ 1000000 := by rw [List.length_map]; have := (R.s i hi).1.2; omega
    have l4 : ((bxK r i).map rcb).length ≤ 1000000 := by rw [List.length_map]; omega
    unfold stsD at *
    generalize (lay r i).map c2 = TT at *
    generalize (bxK r i).map rcb = BB at *
    generalize ((List.range (i + 1)).flatMap (bxK r)).map rcb = F2 at *
    generalize stD r.lg r.x r.y r.W i = SD at *
    generalize rowD r = RD at *
    unfold d_rectangles_l1
    simp -implicitDefEqProofs [srcW_dt, e2, l3, l4, wipeE, il, ex])
  rw [List.length_map, List.length_range] at lp
  have z := zip_st r R.n
  have l1 : ((List.range r.lg.length).map (stD r.lg r.x r.y r.W)).length = r.lg.length := by simp
  have l2 : (r.laid.map stsD).length = r.lg.length := by simp [R.n]
  have z0 : ((List.range 0).flatMap (bxK r)).map rcb = [] := rfl
  have l5 : ((List.range r.lg.length).map fun k => pairD (stsD (lay r k)) (stD r.lg r.x r.y r.W k)).length ≤ 1000000 := by rw [List.length_map, List.length_range]; omega
  rw [z0] at lp
  unfold bxs
  have gt : (st ++ [Ob.lst (((List.range r.lg.length).flatMap (bxK r)).map rcb)])[st.length]? = some (.lst (((List.range r.lg.length).flatMap (bxK r)).map rcb)) := by simp
  have ep : ixD (rowD r) (.int 0) = some (ptD r.x r.y r.lg) := rfl
  have ew : ixD (rowD r) (.int 1) = some (.int r.W) := rfl
  have el : ixD (rowD r) (.int 2) = some (.tuple (r.laid.map stsD)) := rfl
  generalize ((List.range r.lg.length).map fun k => pairD (stsD (lay r k)) (stD r.lg r.x r.y r.W k)) = ZZ at *
  generalize (List.range r.lg.length).map (stD r.lg r.x r.y r.W) = SS at *
  generalize r.laid.map stsD = LL at *
  generalize ptD r.x r.y r.lg = PD at *
  generalize ((List.range r.lg.length).flatMap (bxK r)).map rcb = RR at *
  generalize rowD r = RD at *
  unfold m_rectangles d_rectangles
  simp -implicitDefEqProofs [newW, ep, ew, el, es, zip2W, z, l5, lp, x_end_fr (Nat.le_refl _) gt, -forL_cons]
end
section
variable [Tbl] [FnA]
/-! ## the first two stones that lie over one another -/
def AS (rs : List Row) (st : Sto) (i : Nat) : Sto := st ++ [Ob.lst ((allN rs i).map (eN rcb))]
theorem AS_at (rs : List Row) (st : Sto) (i : Nat) : (AS rs st i)[st.length]? = some (.lst ((allN rs i).map (eN rcb))) := by unfold AS; simp
theorem AS_succ (rs : List Row) (st : Sto) (i : Nat) : (AS rs st i).set st.length (.lst ((allN rs (i + 1)).map (eN rcb))) = AS rs st (i + 1) := by unfold AS; simp
section
variable {rs : List Row} (hn : rs.length ≤ 6) (ok : ∀ r ∈ rs, RwOk r)
include hn ok
theorem r_all_stones (st : Sto) : m_all_stones [.d (rowsD rs)] st = .ok (.d (.list ((allB rs).map (eN rcb)))) st := by
  have lp := forL_at (g := gTp (gCn (gN 2) (gCn (gN 3) gNl))) (b := d_all_stones_l1) (fun _ => [some (.d (rowsD rs)), some (.r st.length), none, none, none, none, none]) (AS rs st) (enumD (rs.map rowD)) (fun i x hx => by
    unfold enumD at hx
    rw [List.getElem?_mapIdx, List.getElem?_map] at hx
    cases hr : rs[i]? with
    | none => rw [hr] at hx; cases hx
    | some r =>
      rw [hr] at hx
      cases hx
      obtain ⟨eb, R⟩ := rwB_at ok hr
      have hi : i < rs.length := (List.getElem?_eq_some_iff.mp hr).1
      have er := r_rectangles R (AS rs st i)
      have lb := rwB_len ok i
      have la := allN_len ok i
      refine ⟨_, rfl, ?_⟩
      show d_all_stones_l1 [some (.d (rowsD rs)), some (.r st.length), some (.d (.int ((i : Int)))), some (.d (rowD r)), none, none, none] (AS rs st i) = _
      have e2 := lcL_mapE (g := gTp (gCn (gN 5) (gCn (gN 6) gNl))) (c := eTup (aCons (eVar 2) (aCons (eVar 5) (aCons (eVar 6) aNil)))) (env := [some (.d (rowsD rs)), some (.r st.length), some (.d (.int ((i : Int)))), some (.d (rowD r)), none, none, none]) (st := AS rs st i) (e1 rcb) (eN rcb) (enB i (rwB rs i)) [] (fun p hp => by
        have hj : p.1 = i := by
          unfold enB at hp
          obtain ⟨s, hs, rfl⟩ := List.mem_mapIdx.mp hp
          rfl
        refine ⟨_, rfl, ?_⟩
        show (eTup (aCons (eVar 2) (aCons (eVar 5) (aCons (eVar 6) aNil)))) [some (.d (rowsD rs)), some (.r st.length), some (.d (.int ((i : Int)))), some (.d (rowD r)), none, some (.d (.int ((p.2.1 : Int)))), some (.d (rcb p.2.2))] _ = _
        unfold eN
        rw [hj]
        generalize rowD r = RD at *
        generalize rowsD rs = RR at *
        generalize rcb p.2.2 = CC at *
        simp -implicitDefEqProofs [tupW])
      rw [← enum_B, List.nil_append, eb] at e2
      have le : (enumD ((bxs r).map rcb)).length = (bxs r).length := by simp [enumD]
      have lb2 : (bxs r).length ≤ 72 := by rw [← eb]; exact lb
      have l1 : ((bxs r).map rcb).length ≤ 1000000 := by rw [List.length_map]; omega
      have l2 : (enumD ((bxs r).map rcb)).length ≤ 1000000 := by omega
      have l3 : ((enB i (bxs r)).map (eN rcb)).length ≤ 1000000 := by rw [List.length_map, enB_len]; omega
      have g1 := AS_at rs st i
      have il := isLst_l g1
      have ex := extW_l (ys := (enB i (bxs r)).map (eN rcb)) g1 (by rw [List.length_map, List.length_map, enB_len]; omega)
      have sx := AS_succ rs st i
      rw [allN_succ, List.map_append, eb] at sx
      rw [sx] at ex
      generalize AS rs st (i + 1) = S2 at *
      generalize AS rs st i = S0 at *
      have es : enumW [.d (.list ((bxs r).map rcb))] S0 = .ok ⟨enumD ((bxs r).map rcb), []⟩ S0 := rfl
      generalize enumD ((bxs r).map rcb) = EE at *
      generalize (enB i (bxs r)).map (eN rcb) = NN at *
      generalize (bxs r).map rcb = BB at *
      generalize rowD r = RD at *
      generalize rowsD rs = RR at *
      unfold d_all_stones_l1
      simp -implicitDefEqProofs [er, es, e2, l1, l2, l3, wipeE, il, ex])
  have l0 : (enumD (rs.map rowD)).length = rs.length := by simp [enumD]
  rw [l0] at lp
  have z0 : AS rs st 0 = st ++ [.lst []] := rfl
  rw [z0] at lp
  have ga := AS_at rs st rs.length
  have tk : (AS rs st rs.length).take st.length = st := by unfold AS; simp
  have ef : endS st.length (.rt (.f (.r st.length)) (AS rs st rs.length)) = .ok (.d (.list ((allB rs).map (eN rcb)))) st := by
    show (match frzW st.length (AS rs st rs.length) (.r st.length) with | some x => Rs.ok (Wv.d x) ((AS rs st rs.length).take st.length) | none => .no) = _
    unfold frzW
    simp [ga, tk, allB]
  have es : enumW [.d (rowsD rs)] (st ++ [.lst []]) = .ok ⟨enumD (rs.map rowD), []⟩ (st ++ [.lst []]) := rfl
  generalize AS rs st rs.length = S9 at *
  generalize enumD (rs.map rowD) = EE at *
  generalize rowsD rs = RR at *
  generalize (allB rs).map (eN rcb) = NN at *
  unfold m_all_stones d_all_stones
  simp -implicitDefEqProofs [newW, es, lp, ef, -forL_cons]
end
/-! ### which two -/
def q1 (p p2 : Nb) : Option Rt := if covB (rcB p.2.2) (rcB p2.2.2) = true then some (.w (.d (.tuple [.int p.1, .int p.2.1, .int p2.1, .int p2.2.1]))) else none
def q2 (A : List Nb) (z : Nat × Nb) : Option Rt := (A.drop (z.1 + 1)).findSome? (q1 z.2)
def ovR (A : List Nb) : Option Rt := (A.mapIdx fun i p => (i, p)).findSome? (q2 A)
def ovD (A : List Nb) : PyData := match ovR A with
  | some (.w (.d p)) => p
  | _ => .none
theorem findSome_mem {α β : Type} {q : α → Option β} : ∀ {L : List α} {r : β}, L.findSome? q = some r → ∃ a, a ∈ L ∧ q a = some r := fun h => by
  obtain ⟨a, h1, h2⟩ := List.exists_of_findSome?_eq_some h
  exact ⟨a, h1, h2⟩
theorem ov_is (A : List Nb) : ovR A = none ∨ ∃ p, p ∈ A ∧ ∃ p2, p2 ∈ A ∧ ovR A = some (.w (.d (.tuple [.int p.1, .int p.2.1, .int p2.1, .int p2.2.1]))) := by
  cases e : ovR A with
  | none => exact .inl rfl
  | some r =>
    unfold ovR at e
    obtain ⟨z, hz, e⟩ := findSome_mem e
    obtain ⟨i, hi, rfl⟩ := List.mem_mapIdx.mp hz
    unfold q2 at e
    obtain ⟨p2, h2, e⟩ := findSome_mem e
    unfold q1 at e
    split at e
    · cases e; exact .inr ⟨_, List.getElem_mem hi, p2, List.mem_of_mem_drop h2, rfl⟩
    · cases e
theorem enum_A (h : Bx → PyData) (A : List Nb) : enumD (A.map (eN h)) = (A.mapIdx fun i p => (i, p)).map fun z => .tuple [.int (z.1 : Nat), eN h z.2] := by
  unfold enumD
  refine List.ext_getElem (by simp) fun i h1 h2 => ?_
  simp
theorem r_cover (a b : Rc) (st : Sto) : m_cover [.d (rcD a), .d (rcD b)] st = .ok (.d (.bool (covB a b))) st := by
  obtain ⟨a1, a2, a3, a4⟩ := a
  obtain ⟨b1, b2, b3, b4⟩ := b
  unfold m_cover d_cover rcD covB
  by_cases h1 : a1 < b3
  · by_cases h2 : b1 < a3
    · have q1 : ¬ b3 ≤ a1 := by omega
      have q2 : ¬ a3 ≤ b1 := by omega
      by_cases h3 : a2 < b4 <;> simp -implicitDefEqProofs [h1, h2, q1, q2, h3]
    · have q1 : ¬ b3 ≤ a1 := by omega
      have q2 : a3 ≤ b1 := by omega
      simp -implicitDefEqProofs [h1, h2, q1, q2]
  · have q1 : b3 ≤ a1 := by omega
    simp -implicitDefEqProofs [h1, q1]
section
variable {rs : List Row} (hn : rs.length ≤ 6) (ok : ∀ r ∈ rs, RwOk r)
include hn ok
theorem r_over_by (st : Sto) : m_over_by [.d (rowsD rs)] st = .ok (.d (ovD (allB rs))) st := by
  have ea := fun st => r_all_stones hn ok st
  have la : (allB rs).length ≤ 500 := by have := allN_len ok rs.length; show (allN rs rs.length).length ≤ 500; omega
  have t2 : ∀ z : Nat × Nb, z ∈ ((allB rs).mapIdx fun i p => (i, p)) → d_over_by_l2 [some (.d (rowsD rs)), some (.d (.list ((allB rs).map (eN rcb)))), some (.d (.int ((z.1 : Int)))), some (.d (.int ((z.2.1 : Int)))), some (.d (.int ((z.2.2.1 : Int)))), some (.d (rcb z.2.2.2)), none, none, none] st = seek (q2 (allB rs) z) [some (.d (rowsD rs)), some (.d (.list ((allB rs).map (eN rcb)))), none, none, none, none, none, none, none] st := fun z hz => by
    have lp := forL_seek (g := gTp (gCn (gN 6) (gCn (gN 7) (gCn (gN 8) gNl)))) (b := d_over_by_l1) (env := [some (.d (rowsD rs)), some (.d (.list ((allB rs).map (eN rcb)))), some (.d (.int ((z.1 : Int)))), some (.d (.int ((z.2.1 : Int)))), some (.d (.int ((z.2.2.1 : Int)))), some (.d (rcb z.2.2.2)), none, none, none]) (st := st) (eN rcb) (q1 z.2) ((allB rs).drop (z.1 + 1)) (fun p2 hp => by
      refine ⟨_, rfl, ?_⟩
      show d_over_by_l1 [some (.d (rowsD rs)), some (.d (.list ((allB rs).map (eN rcb)))), some (.d (.int ((z.1 : Int)))), some (.d (.int ((z.2.1 : Int)))), some (.d (.int ((z.2.2.1 : Int)))), some (.d (rcb z.2.2.2)), some (.d (.int ((p2.1 : Int)))), some (.d (.int ((p2.2.1 : Int)))), some (.d (rcb p2.2.2))] st = _
      have ec := fun st => r_cover (rcB z.2.2.2) (rcB p2.2.2) st
      unfold d_over_by_l1 q1 rcb
      generalize (allB rs).map (eN fun b => rcD (rcB b)) = NN at *
      generalize (allB rs).map (eN rcb) = NN2 at *
      generalize rowsD rs = RR at *
      generalize rcD (rcB z.2.2.2) = C1 at *
      generalize rcD (rcB p2.2.2) = C2 at *
      cases h : covB (rcB z.2.2.2) (rcB p2.2.2) <;> simp only [h] at ec <;> simp -implicitDefEqProofs [ec, tupW, wipeE])
    have ls : ((allB rs).map (eN rcb)).length ≤ 1000000 := by rw [List.length_map]; omega
    have ld : (((allB rs).drop (z.1 + 1)).map (eN rcb)).length ≤ 1000000 := by rw [List.length_map, List.length_drop]; omega
    have ed : cutD ((allB rs).map (eN rcb)) (some (((z.1 + 1 : Nat)) : Int)) none = ((allB rs).drop (z.1 + 1)).map (eN rcb) := by rw [cutD_drop, List.map_drop]
    rw [Int.natCast_add] at ed
    have ed : cutD ((allB rs).map (eN rcb)) (some ((z.1 : Int) + 1)) none = ((allB rs).drop (z.1 + 1)).map (eN rcb) := ed
    unfold q2
    generalize ((allB rs).drop (z.1 + 1)).map (eN rcb) = DD at *
    generalize (allB rs).map (eN rcb) = NN at *
    generalize rowsD rs = RR at *
    generalize rcb z.2.2.2 = C1 at *
    unfold d_over_by_l2
    simp -implicitDefEqProofs [ls, ed, ld, srcW_dl, lp, -forL_cons]
    cases ((allB rs).drop (z.1 + 1)).findSome? (q1 z.2) <;> simp -implicitDefEqProofs [wipeE]
  have lp := forL_seek (g := gTp (gCn (gN 2) (gCn (gTp (gCn (gN 3) (gCn (gN 4) (gCn (gN 5) gNl)))) gNl))) (b := d_over_by_l2) (env := [some (.d (rowsD rs)), some (.d (.list ((allB rs).map (eN rcb)))), none, none, none, none, none, none, none]) (st := st) (fun z : Nat × Nb => .tuple [.int (z.1 : Nat), eN rcb z.2]) (q2 (allB rs)) ((allB rs).mapIdx fun i p => (i, p)) (fun z hz => ⟨_, rfl, t2 z hz⟩)
  rw [← enum_A, show ((allB rs).mapIdx fun i p => (i, p)).findSome? (q2 (allB rs)) = ovR (allB rs) from rfl] at lp
  have es : enumW [.d (.list ((allB rs).map (eN rcb)))] st = .ok ⟨enumD ((allB rs).map (eN rcb)), []⟩ st := rfl
  unfold ovD
  generalize enumD ((allB rs).map (eN rcb)) = EE at *
  generalize (allB rs).map (eN rcb) = NN at *
  generalize rowsD rs = RR at *
  unfold m_over_by d_over_by
  rcases ov_is (allB rs) with q | ⟨p, _, p2, _, q⟩
  · rw [q] at lp ⊢
    simp -implicitDefEqProofs [ea, es, lp, -forL_cons]
  · rw [q] at lp ⊢
    simp -implicitDefEqProofs [ea, es, lp, -forL_cons]
theorem r_first_over (st : Sto) : m_first_over [.d (rowsD rs)] st = .ok (.d (ovD (allB rs))) st := by
  have e1 := fun st => r_need_rows hn ok st
  have e2 := fun st => r_over_by hn ok st
  generalize rowsD rs = RD at *
  generalize ovD (allB rs) = RR at *
  unfold m_first_over d_first_over
  simp -implicitDefEqProofs [e1, e2]
end
end
section
variable [Tbl] [FnA]
/-! ## no row at all, one row six times -/
theorem a2_turn {d x : PyData} (h : ∀ st, m_first_over [.d d] st = .ok (.d x) st) (v0 v1 v3 v4 : Option Wv) (st : Sto) : d__law_rows_right_l2 [v0, v1, some (.d d), v3, v4, none, none] st = .nx [v0, v1, none, v3, v4, none, none] st := by
  have q : ixD (.tuple [.str "told", x]) (.int 0) = some (.str "told") := rfl
  have q2 : neD (.str "told") (.str "told") = some (.bool false) := rfl
  have sk : ∀ st, saidR (some "told") fl__law_word st.length (.ok (.d x) st) = .ok (.d (.tuple [.str "told", x])) st := fun st => by rw [saidR_d, List.take_length]; rfl
  generalize PyData.tuple [.str "told", x] = W at *
  unfold d__law_rows_right_l2
  simp -implicitDefEqProofs [es_is, h, sk, q, q2, wipeE]
end
section
variable [Tbl] [FnA]
/-! ## whatever of rows is no rows -/
theorem for_same {g : Wv → En → Option En} {b : En → Sto → SR} {env : En} {st : Sto} (xs : List PyData) (h : ∀ x ∈ xs, ∃ env1, g (.d x) env = some env1 ∧ b env1 st = .nx env st) : forL g b [] xs env st = .nx env st := forL_at (fun _ => env) (fun _ => st) xs fun i x hx => h x (List.mem_of_getElem? hx)
theorem nr_w (W : Int) : NoRow (.int W) := nrow_else fun xs h => by cases h
theorem nr_none : NoRow .none := nrow_else fun xs h => by cases h
theorem nr_path (x y : Int) (lg : Lgs) : NoRow (ptD x y lg) := nrow3 (.inl rfl) _
theorem nr_laid (ls : List Sts) : NoRow (.tuple (ls.map stsD)) := by
  match ls with
  | [] => exact nrow_tup (by simp)
  | [_] => exact nrow_tup (by simp)
  | [_, _] => exact nrow_tup (by simp)
  | a :: b :: c :: d :: r => exact nrow_tup (by simp)
  | [a, b, c] =>
    refine nrow3 (.inl (path_tup fun d hd => ?_)) _
    obtain ⟨q, _, rfl⟩ := List.mem_map.mp hd
    exact ⟨_, rfl⟩
theorem nrs_row (r : Row) : NoRows (rowD r) := fun st => nrs_bad [(ptD r.x r.y r.lg, false), (.int r.W, false), (.tuple (r.laid.map stsD), false)] (by simp) (fun p hp st => by
  simp only [List.mem_cons, List.not_mem_nil, or_false] at hp
  rcases hp with rfl | rfl | rfl
  · exact nr_path r.x r.y r.lg st
  · exact nr_w r.W st
  · exact nr_laid r.laid st) rfl st
theorem nrs_one : NoRows (.tuple [.none]) := fun st => nrs_bad [(.none, false)] (by simp) (fun p hp st => by
  rw [List.mem_singleton.mp hp]
  exact nr_none st) rfl st
theorem r_rows_right {r : Row} (R : RwOk r) (st : Sto) : m__law_rows_right [.d (rowD r)] st = .ok (.d (.bool true)) st := by
  have hr : IsRow (rowD r) := fun st => r_is_row R st
  have m7 : mulD (.tuple [rowD r]) (.int 7) = some (.tuple (List.replicate 7 (rowD r))) := rfl
  have m6 : mulD (.tuple [rowD r]) (.int 6) = some (rowsD (List.replicate 6 r)) := rfl
  have l1 := for_same (g := gN 1) (b := d__law_rows_right_l1) (env := [some (.d (rowD r)), none, none, none, none, none, none]) (st := st) [.none, rowD r, .list [rowD r], .tuple (List.replicate 7 (rowD r)), .tuple [.none], .str "rows"] fun x hx => by
    have hb : NoRows x := by
      simp only [List.mem_cons, List.not_mem_nil, or_false] at hx
      rcases hx with rfl | rfl | rfl | rfl | rfl | rfl
      · exact nrs_else fun xs h => by cases h
      · exact nrs_row r
      · exact nrs_else fun xs h => by cases h
      · exact nrs_long (by simp)
      · exact nrs_one
      · exact nrs_else fun xs h => by cases h
    exact ⟨_, rfl, a1_turn hb _ _ _ _ st⟩
  have l2 := for_same (g := gN 2) (b := d__law_rows_right_l2) (env := [some (.d (rowD r)), none, none, none, none, none, none]) (st := st) [.tuple [], rowsD (List.replicate 6 r)] fun x hx => by
    have hb : ∃ d, ∀ st, m_first_over [.d x] st = .ok (.d d) st := by
      simp only [List.mem_cons, List.not_mem_nil, or_false] at hx
      rcases hx with rfl | rfl
      · exact ⟨_, fun st => r_first_over (rs := []) (by simp) (fun r h => absurd h (by simp)) st⟩
      · exact ⟨_, fun st => r_first_over (rs := List.replicate 6 r) (by simp) (fun q h => by rw [(List.mem_replicate.mp h).2]; exact R) st⟩
    obtain ⟨d, hb⟩ := hb
    exact ⟨_, rfl, a2_turn hb _ _ _ _ st⟩
  have l3 := for_same (g := gTp (gCn (gN 3) (gCn (gN 4) gNl))) (b := d__law_rows_right_l3) (env := [some (.d (rowD r)), none, none, none, none, none, none]) (st := st) [.tuple [.none, .int 0], .tuple [.int 0, .none], .tuple [.bool true, .int 0], .tuple [.int 0, .str "0"], .tuple [.tuple [.int 0], .int 0]] fun x hx => by
    simp only [List.mem_cons, List.not_mem_nil, or_false] at hx
    rcases hx with rfl | rfl | rfl | rfl | rfl
    · exact ⟨_, rfl, a3_turn hr (.inl rfl) _ _ st⟩
    · exact ⟨_, rfl, a3_turn hr (.inr rfl) _ _ st⟩
    · exact ⟨_, rfl, a3_turn hr (.inl rfl) _ _ st⟩
    · exact ⟨_, rfl, a3_turn hr (.inr rfl) _ _ st⟩
    · exact ⟨_, rfl, a3_turn hr (.inl rfl) _ _ st⟩
  have sx := fun st => saidR_ex (some "told") fl__law_word st.length fl_J st
  have lc := lcL_mapE (g := gN 1) (c := eSaid told__law_word fl__law_word (eCall m_in_joints (aCons (eVar 0) (aCons (eVar 1) aNil)))) (env := [some (.d (rowD r)), none, none, none, none, none, none]) (st := st) (fun d : PyData => d) (fun _ => .tuple [.str "joints"]) [PyData.none, .tuple [.int 2, .int 1], .tuple [.int 0, .int 10], .list [.int 0, .int 1]] [] (fun d hd => by
    have e := ij_bad hr d hd
    refine ⟨_, rfl, ?_⟩
    show (eSaid told__law_word fl__law_word (eCall m_in_joints (aCons (eVar 0) (aCons (eVar 1) aNil)))) [some (.d (rowD r)), some (.d d), none, none, none, none, none] st = _
    rw [es_is]
    generalize rowD r = RD at *
    simp -implicitDefEqProofs [e, sx])
  rw [List.nil_append, List.map_id'] at lc
  have mj : mulD (.list [.tuple [.str "joints"]]) (.int 4) = some (.list [.tuple [.str "joints"], .tuple [.str "joints"], .tuple [.str "joints"], .tuple [.str "joints"]]) := rfl
  have q : eqD (.list [.tuple [.str "joints"], .tuple [.str "joints"], .tuple [.str "joints"], .tuple [.str "joints"]]) (.list [.tuple [.str "joints"], .tuple [.str "joints"], .tuple [.str "joints"], .tuple [.str "joints"]]) = some (.bool true) := rfl
  simp only [List.map_cons, List.map_nil] at lc
  generalize rowsD (List.replicate 6 r) = R6 at *
  generalize List.replicate 7 (rowD r) = R7 at *
  generalize rowD r = RD at *
  unfold m__law_rows_right d__law_rows_right
  simp -implicitDefEqProofs [srcW_dl, srcW_dt, m7, m6, tupW, lstW, l1, l2, l3, lc, mj, q, wipeE, -forL_cons, -o_mul_t, -o_mul_l]
end
section
variable [Tbl] [FnA]
open PySem.W (Datum DatumOrd Tup minOf maxOf)
/-! ## stones drawn along a strip -/
theorem SOk.snoc {L : Int} {q : Int × Int} : ∀ {t : Sts} {e : Int}, SOk L e t → endOf e t ≤ q.1 → 1 ≤ q.2 → q.2 ≤ 20 → q.1 + q.2 ≤ L → SOk L e (t ++ [q]) ∧ endOf e (t ++ [q]) = q.1 + q.2
  | [], e, h, h1, h2, h3, h4 => ⟨⟨h1, h2, h3, h4, trivial⟩, rfl⟩
  | q0 :: t, e, h, h1, h2, h3, h4 => by
    obtain ⟨a1, a2, a3, a4, a5⟩ := h
    obtain ⟨i1, i2⟩ := SOk.snoc (q := q) a5 h1 h2 h3 h4
    exact ⟨⟨a1, a2, a3, a4, i1⟩, i2⟩
structure StI (p n : Nat) (st : Sto) (L : Int) (t : Sts) (a : Int) (st' : Sto) : Prop where
  at' : st'[n]? = some (.lst (t.map c2))
  px : Px p n st st'
  ok : SOk L 0 t
  e : endOf 0 t ≤ a
  a : 0 ≤ a
  n : t.length ≤ 12
def stT : En → Sto → Rs Bool := (tAnd2 (tBl (eOp2 ltD (eVar 3) (eVar 1))) (tBl (eOp2 ltD (eOpN lenF (aCons (eVar 2) aNil)) (eK (.int 12)))))
noncomputable def stB : En → Sto → SR := (sWp [4] (sSeq (sSet 4 (eOp2 addD (eK (.int 1)) (eCall m__law_draw (aCons (eVar 0) (aCons (eOpN min2F (aCons (eK (.int 20)) (aCons (eOp2 subD (eVar 1) (eVar 3)) aNil))) aNil)))))
    (sSeq (sExp (eM appW (eVar 2) (aCons (eTup (aCons (eVar 3) (aCons (eVar 4) aNil))) aNil)))
    (sSet 3 (eOp2 addD (eOp2 addD (eVar 3) (eVar 4)) (eOp2 ixD (eLst (aCons (eK (.int 0)) (aCons (eK (.int 1)) (aCons (eK (.int 2)) (aCons (eK (.int 9)) aNil))))) (eCall m__law_draw (aCons (eVar 0) (aCons (eK (.int 4)) aNil)))))))))
def stE (p n : Nat) (L a : Int) : En := [some (.r p), some (.d (.int (L))), some (.r n), some (.d (.int (a))), none]
theorem gap4 {v : Int} (h0 : 0 ≤ v) (h1 : v < 4) : ∃ g : Int, ixD (.list [.int 0, .int 1, .int 2, .int 9]) (.int v) = some (.int g) ∧ 0 ≤ g ∧ g ≤ 9 := by
  obtain rfl | rfl | rfl | rfl : v = 0 ∨ v = 1 ∨ v = 2 ∨ v = 3 := by omega
  · exact ⟨0, rfl, by decide, by decide⟩
  · exact ⟨1, rfl, by decide, by decide⟩
  · exact ⟨2, rfl, by decide, by decide⟩
  · exact ⟨9, rfl, by decide, by decide⟩
theorem st_turn {p n : Nat} {st : Sto} {L : Int} (hL : L ≤ 1000) (hp : p < n) {t : Sts} {a : Int} {st' : Sto} (I : StI p n st L t a st') (h1 : a < L) (h2 : t.length < 12) :
    stT (stE p n L a) st' = .ok true st' ∧ ∃ t2 a2 st2, stB (stE p n L a) st' = .nx (stE p n L a2) st2 ∧ StI p n st L t2 a2 st2 ∧ t2.length = t.length + 1 := by
  obtain ⟨at', px, ok, e, a0, hn⟩ := I
  have lk := look_l at'
  have ll : ((t.map c2).length : Int) < 12 := by rw [List.length_map]; omega
  refine ⟨?_, ?_⟩
  · unfold stT stE
    generalize t.map c2 = T at *
    simp -implicitDefEqProofs [h1, lk, ll, looks]
  · have hm : 1 ≤ (if L - a < 20 then L - a else 20) ∧ (if L - a < 20 then L - a else 20) ≤ 20 ∧ (if L - a < 20 then L - a else 20) ≤ L - a := by split <;> omega
    obtain ⟨u, st1, e1, b1, b2, c1⟩ := r_draw (if L - a < 20 then L - a else 20) px.pen (by omega) (by omega)
    have g1 : st1[n]? = some (.lst (t.map c2)) := by rw [c1.sm n (by omega)]; exact at'
    have il := isLst_l g1
    have px1 := (px.pn c1).put (i := n) (Nat.le_refl _) hp (.lst ((t ++ [(a, 1 + u)]).map c2))
    have ap := appW_l g1 (by rw [List.length_map]; omega) (c2 (a, 1 + u))
    rw [show t.map c2 ++ [c2 (a, 1 + u)] = (t ++ [(a, 1 + u)]).map c2 from by rw [List.map_append]; rfl] at ap
    obtain ⟨v, st2, e2, d1, d2, f2⟩ := r_draw 4 px1.pen (by decide) (by decide)
    obtain ⟨g, eg, g0, g9⟩ := gap4 d1 d2
    have hnl : n < st1.length := (List.getElem?_eq_some_iff.mp g1).1
    have g2 : st2[n]? = some (.lst ((t ++ [(a, 1 + u)]).map c2)) := by rw [f2.sm n (by omega)]; exact List.getElem?_set_self hnl
    obtain ⟨s1, s2⟩ := SOk.snoc (q := (a, 1 + u)) ok e (by show 1 ≤ 1 + u; omega) (by show 1 + u ≤ 20; omega) (by show a + (1 + u) ≤ L; omega)
    refine ⟨t ++ [(a, 1 + u)], a + (1 + u) + g, st2, ?_, ⟨g2, px1.pn f2, s1, by rw [s2]; show a + (1 + u) ≤ _; omega, by omega, by simp; omega⟩, by simp⟩
    have tw : ∀ st, tupW [(.d (.int (a))), (.d (.int (1 + u)))] st = .ok (.d (c2 (a, 1 + u))) st := fun st => rfl
    unfold stB stE
    generalize (t ++ [(a, 1 + u)]).map c2 = T2 at *
    generalize c2 (a, 1 + u) = C at *
    simp -implicitDefEqProofs [e1, tw, il, ap, e2, lstW, eg, wipeE]
theorem st_loop {p n : Nat} {st : Sto} {L : Int} (hL : L ≤ 1000) (hp : p < n) : ∀ (f : Nat) (t : Sts) (a : Int) (st' : Sto), 13 ≤ t.length + f → StI p n st L t a st' → ∃ t2 a2 st2, whL stT stB f (stE p n L a) st' = .nx (stE p n L a2) st2 ∧ StI p n st L t2 a2 st2
  | 0, t, a, st', h, I => absurd I.n (by omega)
  | f + 1, t, a, st', h, I => by
    by_cases h1 : a < L
    · by_cases h2 : t.length < 12
      · obtain ⟨q, t2, a2, st2, e2, I2, l2⟩ := st_turn hL hp I h1 h2
        obtain ⟨t3, a3, st3, e3, I3⟩ := st_loop hL hp f t2 a2 st2 (by omega) I2
        exact ⟨t3, a3, st3, by simp [whL, q, e2, e3], I3⟩
      · refine ⟨t, a, st', ?_, I⟩
        have q : stT (stE p n L a) st' = .ok false st' := by
          have lk := look_l I.at'
          have ll : ¬ ((t.map c2).length : Int) < 12 := by rw [List.length_map]; omega
          unfold stT stE
          generalize t.map c2 = T at *
          simp -implicitDefEqProofs [h1, lk, ll, looks]
        simp [whL, q]
    · refine ⟨t, a, st', ?_, I⟩
      have q : stT (stE p n L a) st' = .ok false st' := by
        unfold stT stE
        simp -implicitDefEqProofs [h1]
      simp [whL, q]
theorem r_law_stones {p : Nat} {st : Sto} (h : Pen p st) {L : Int} (hL : 1 ≤ L ∧ L ≤ 1000) : ∃ (t : Sts) (st' : Sto), m__law_stones [.r p, (.d (.int (L)))] st = .ok (.d (stsD t)) st' ∧ ((1 ≤ t.length ∧ t.length ≤ 12) ∧ SOk L 0 t) ∧ Pn p st st' := by
  have hp := h.lt
  have px0 := (Px.refl h).app [.lst []]
  obtain ⟨v1, st1, e1, a1, b1, c1⟩ := r_draw 3 px0.pen (by decide) (by decide)
  obtain ⟨v2, st2, e2, a2, b2, c2'⟩ := r_draw 2 c1.pen (by decide) (by decide)
  have px2 := (px0.pn c1).pn c2'
  have g2 : st2[st.length]? = some (.lst []) := by rw [c2'.sm _ (by omega), c1.sm _ (by omega)]; simp
  have hv : 0 ≤ v1 * v2 := Int.mul_nonneg a1 a2
  obtain ⟨t, a, st3, e3, I⟩ := st_loop hL.2 hp 100000 [] (v1 * v2) st2 (by simp) ⟨g2, px2, trivial, hv, hv, by simp⟩
  have bk := I.px.back hp
  have lk := look_l I.at'
  have lk1 := fun f => look1_l I.at' f
  have bg := fun j => big_l (i := v1) (j := j) a1 (by omega)
  have q : neD (.list (t.map c2)) (.list []) = some (.bool (!decide (t = []))) := q_ne t []
  have l1 : (t.map c2).length ≤ 1000000 := by rw [List.length_map]; have := I.n; omega
  have mk : ∀ T : Sts, (decide (t = []) = false → T = t) → (decide (t = []) = true → T = [(0, 1)]) → m__law_stones [.r p, (.d (.int (L)))] st = .ok (.d (stsD T)) (st3.take st.length) := fun T h1 h2 => by
    unfold stT stB at e3
    unfold stE at e3
    unfold m__law_stones d__law_stones sWh
    cases hd : decide (t = []) with
    | false =>
      rw [hd] at q
      rw [h1 hd]
      unfold stsD
      generalize t.map c2 = TT at *
      simp -implicitDefEqProofs [newW, e1, e2, bg, e3, lstW, lk, lk1, q, looks]
    | true =>
      rw [hd] at q
      rw [h2 hd]
      have z : stsD [(0, 1)] = .tuple [.tuple [.int 0, .int 1]] := rfl
      rw [z]
      generalize t.map c2 = TT at *
      simp -implicitDefEqProofs [newW, e1, e2, bg, e3, lstW, tupW, lk, lk1, q, looks]
  by_cases ht : t = []
  · exact ⟨[(0, 1)], _, mk _ (fun z => absurd ht (of_decide_eq_false z)) (fun _ => rfl), ⟨⟨by simp, by simp⟩, ⟨by decide, by decide, by decide, hL.1, trivial⟩⟩, bk⟩
  · exact ⟨t, _, mk _ (fun _ => rfl) (fun z => absurd (of_decide_eq_true z) ht), ⟨⟨List.length_pos_iff.mpr ht, I.n⟩, I.ok⟩, bk⟩
end
section
variable [Tbl] [FnA]
/-! ## a row drawn -/
theorem lcL_penE {α β : Type} {g : Wv → En → Option En} {c : En → Sto → Rs Wv} {env : En} {p : Nat} (enc : α → PyData) (out : β → PyData) (Q : α → β → Prop) : ∀ (L : List α) (acc : List PyData) (st : Sto), Pen p st → (∀ a ∈ L, ∀ st, Pen p st → ∃ env1 y st', g (.d (enc a)) env = some env1 ∧ c env1 st = .ok (.d (out y)) st' ∧ Q a y ∧ Pn p st st') →
    ∃ (R : List β) (st' : Sto), lcL g tYs c [] env (L.map enc) acc st = .ok (acc ++ R.map out) st' ∧ Pn p st st' ∧ R.length = L.length ∧ ∀ (i : Nat) (a : α), L[i]? = some a → ∃ y, R[i]? = some y ∧ Q a y
  | [], acc, st, h, _ => ⟨[], st, by simp [lcL], .refl h, rfl, fun i a e => absurd e (by simp)⟩
  | a :: L, acc, st, h, f => by
    obtain ⟨env1, y, st1, e1, e2, q, c1⟩ := f a (by simp) st h
    obtain ⟨R, st2, e3, c2, hl, hq⟩ := lcL_penE enc out Q L (acc ++ [out y]) st1 c1.pen fun b hb => f b (by simp [hb])
    refine ⟨y :: R, st2, ?_, c1.trans c2, by simp [hl], fun i b e => ?_⟩
    · rw [List.map_cons, lcL]
      simp [e1, tYs, e2, e3]
    · cases i with
      | zero => simp at e; subst e; exact ⟨y, by simp, q⟩
      | succ i => simpa using hq i b (by simpa using e)
section
variable {x y : Int} {lg : Lgs} (P : Pt x y lg) {W : Int} (hW : 1 ≤ W ∧ W ≤ 9) (ok : ∀ k, k < lg.length → 1 ≤ he lg W k)
include P hW ok
theorem row_end {p : Nat} {g : Wv → En → Option En} {c : En → Sto → Rs Wv} {env : En} (hg : ∀ k, ∃ env1, g (.d (stD lg x y W k)) env = some env1 ∧ ∀ st t st', m__law_stones [.r p, (.d (.int (he lg W k)))] st = .ok (.d (stsD t)) st' → c env1 st = .ok (.d (stsD t)) st') {st : Sto} (h : Pen p st) :
    ∃ (laid : List Sts) (st' : Sto), lcL g tYs c [] env ((List.range lg.length).map (stD lg x y W)) [] st = .ok (laid.map stsD) st' ∧ RwOk ⟨x, y, lg, W, laid⟩ ∧ Pn p st st' := by
  obtain ⟨R, st', e, c1, hl, hq⟩ := lcL_penE (g := g) (c := c) (env := env) (p := p) (stD lg x y W) stsD (fun k t => ((1 ≤ t.length ∧ t.length ≤ 12) ∧ SOk (he lg W k) 0 t)) (List.range lg.length) [] st h (fun k hk st hp => by
    have hk2 := List.mem_range.mp hk
    obtain ⟨env1, g1, g2⟩ := hg k
    obtain ⟨t, st1, e1, q, c1⟩ := r_law_stones hp (L := he lg W k) ⟨ok k hk2, by
      have kk := P.k hk2
      have a := ah_b (lg := lg) hW k
      have m : 0 ≤ mo lg W k ∧ mo lg W k ≤ 9 := by unfold mo; split <;> (try split) <;> omega
      unfold he
      omega⟩
    exact ⟨env1, t, st1, g1, g2 _ _ _ e1, q, c1⟩)
  rw [List.nil_append] at e
  refine ⟨R, st', e, ⟨P, hW, ok, by rw [hl, List.length_range], fun k hk => ?_⟩, c1⟩
  obtain ⟨t, e1, q⟩ := hq k k (by rw [List.getElem?_range hk])
  show (1 ≤ ((R[k]?).getD []).length ∧ ((R[k]?).getD []).length ≤ 12) ∧ SOk (he lg W k) 0 ((R[k]?).getD [])
  rw [e1]
  exact q
end
theorem first_bad (f : Nat → Int) : ∀ m, (∀ k, k < m → 1 ≤ f k) ∨ ∃ n, n < m ∧ ¬ 1 ≤ f n ∧ ∀ k, k < n → 1 ≤ f k
  | 0 => .inl fun k h => absurd h (Nat.not_lt_zero k)
  | m + 1 => by
    rcases first_bad f m with h | ⟨n, h1, h2, h3⟩
    · by_cases q : 1 ≤ f m
      · refine .inl fun k hk => ?_
        by_cases z : k < m
        · exact h k z
        · rw [show k = m from by omega]; exact q
      · exact .inr ⟨m, Nat.lt_succ_self m, q, h⟩
    · exact .inr ⟨n, by omega, h2, h3⟩
/-! ### the legs made shorter -/
def sh (lg : Lgs) : Lgs := (lg.take 4).map fun l => (l.1, 1 + l.2 % 40)
theorem sh_len {lg : Lgs} (h : 1 ≤ lg.length) : 1 ≤ (sh lg).length ∧ (sh lg).length ≤ 4 := by unfold sh; simp; omega
theorem sh_wy {lg : Lgs} {k : Nat} (h : k < (sh lg).length) : wy (sh lg) k = wy lg k := by
  have hk : k < 4 ∧ k < lg.length := by unfold sh at h; simp at h; omega
  unfold wy sh
  rw [List.getElem?_map, List.getElem?_take_of_lt hk.1]
  rw [List.getElem?_eq_getElem hk.2]
  rfl
structure Small (r : Row) : Prop where
  x : -30 ≤ r.x ∧ r.x ≤ 30
  y : -30 ≤ r.y ∧ r.y ≤ 30
theorem pt_sh {x y x2 y2 : Int} {lg : Lgs} (P : Pt x y lg) (h1 : -1000 ≤ x2 ∧ x2 ≤ 1000) (h2 : -1000 ≤ y2 ∧ y2 ≤ 1000) : Pt x2 y2 (sh lg) := by
  have hl := sh_len P.n.1
  refine ⟨h1, h2, ⟨hl.1, by omega⟩, fun l hl => ?_, fun k hk => ?_⟩
  · unfold sh at hl
    obtain ⟨l0, h0, rfl⟩ := List.mem_map.mp hl
    have := P.ok l0 (List.mem_of_mem_take h0)
    exact ⟨this.1, by show 1 ≤ 1 + l0.2 % 40; omega, by show 1 + l0.2 % 40 ≤ 60; omega⟩
  · have hk2 : k + 1 < lg.length := by unfold sh at hk; simp at hk; omega
    have := P.t k hk2
    unfold tq at *
    rw [sh_wy hk, sh_wy (by omega)]
    exact this
theorem pt_one {x y : Int} {lg : Lgs} (P : Pt x y lg) : Pt x y (lg.take 1) := by
  have := P.n
  exact ⟨P.x, P.y, ⟨by simp; omega, by simp; omega⟩, fun l hl => P.ok l (List.mem_of_mem_take hl), fun k hk => by simp at hk; omega⟩
theorem one_ok {x y : Int} {lg : Lgs} (P : Pt x y lg) (W : Int) : ∀ k, k < (lg.take 1).length → 1 ≤ he (lg.take 1) W k := fun k hk => by
  have h0 : k = 0 := by simp at hk; omega
  subst h0
  have kk := (pt_one P).k hk
  have e : he (lg.take 1) W 0 = ln (lg.take 1) 0 + mo (lg.take 1) W 0 - 0 := rfl
  have m : mo (lg.take 1) W 0 = 0 := if_neg (show ¬ (0 + 1 < (lg.take 1).length) by simp; omega)
  rw [e, m]
  omega
end
section
variable [Tbl] [FnA]
theorem leg_sh (l : Nat × Int) (v0 v1 v2 v3 : Option Wv) (st : Sto) : (eTup (aCons (eVar 5) (aCons (eOp2 addD (eK (.int 1)) (eOp2 modD (eVar 6) (eK (.int 40)))) aNil))) [v0, v1, v2, v3, none, some (.d (.str (wayS l.1))), some (.d (.int (l.2))), none] st = .ok (.d (lgD (l.1, 1 + l.2 % 40))) st := by
  unfold lgD
  generalize wayS l.1 = w
  simp -implicitDefEqProofs [tupW]
theorem r_law_row {p : Nat} {st : Sto} (h : Pen p st) : ∃ (r : Row) (st' : Sto), m__law_row [.r p] st = .ok (.d (rowD r)) st' ∧ RwOk r ∧ Small r ∧ Pn p st st' := by
  obtain ⟨x, y, lg, st1, e1, b1, P, c1⟩ := r_path h
  obtain ⟨w, st2, e2, a2, b2, c2'⟩ := r_draw 4 c1.pen (by decide) (by decide)
  have c12 := c1.trans c2'
  have P1 : Pt (x / 6) (y / 6) (sh lg) := pt_sh P (by omega) (by omega)
  have hW : 1 ≤ 1 + w ∧ 1 + w ≤ 9 := by omega
  have el := lcL_mapE (g := gTp (gCn (gN 5) (gCn (gN 6) gNl))) (c := eTup (aCons (eVar 5) (aCons (eOp2 addD (eK (.int 1)) (eOp2 modD (eVar 6) (eK (.int 40)))) aNil))) (env := [some (.r p), some (.d (ptD x y lg)), some (.d (.int (1 + w))), none, none, none, none, none]) (st := st2) lgD (fun l => lgD (l.1, 1 + l.2 % 40)) (lg.take 4) [] (fun l _ => ⟨_, rfl, leg_sh l _ _ _ _ _⟩)
  rw [List.nil_append, show (lg.take 4).map (fun l => lgD (l.1, 1 + l.2 % 40)) = (sh lg).map lgD from by unfold sh; rw [List.map_map]; rfl] at el
  have ct : cutD (lg.map lgD) none (some 4) = (lg.take 4).map lgD := by rw [show (4 : Int) = ((4 : Nat) : Int) from rfl, cutD_take, List.map_take]
  have x0 : ixD (ptD x y lg) (.int 0) = some (.int x) := rfl
  have x1 : ixD (ptD x y lg) (.int 1) = some (.int y) := rfl
  have x2 : ixD (ptD x y lg) (.int 2) = some (.tuple (lg.map lgD)) := rfl
  have lt : ((lg.take 4).map lgD).length ≤ 1000000 := by simp; omega
  have ls : ((sh lg).map lgD).length ≤ 1000000 := by rw [List.length_map]; have := sh_len P.n.1; omega
  have tw : ∀ st, tupW [(.d (.int (x / 6))), (.d (.int (y / 6))), .d (.tuple ((sh lg).map lgD))] st = .ok (.d (ptD (x / 6) (y / 6) (sh lg))) st := fun st => rfl
  have rw3 : ∀ (X Y : Int) (G : Lgs) (lay : List Sts) st, tupW [.d (ptD X Y G), (.d (.int (1 + w))), .d (.tuple (lay.map stsD))] st = .ok (.d (rowD ⟨X, Y, G, 1 + w, lay⟩)) st := fun X Y G lay st => rfl
  have mk : ∀ (G : Lgs) (sc : PyData) (ok : Pt (x / 6) (y / 6) G) (ok2 : ∀ k, k < G.length → 1 ≤ he G (1 + w) k), ∃ (laid : List Sts) (st' : Sto), lcL (gN 7) tYs (eCall m__law_stones (aCons (eVar 0) (aCons (eOp2 ixD (eVar 7) (eK (.int 3))) aNil))) [] [some (.r p), some (.d (ptD (x / 6) (y / 6) G)), some (.d (.int (1 + w))), some (.d sc), none, none, none, none] ((List.range G.length).map (stD G (x / 6) (y / 6) (1 + w))) [] st2 = .ok (laid.map stsD) st' ∧ RwOk ⟨x / 6, y / 6, G, 1 + w, laid⟩ ∧ Pn p st2 st' := fun G sc PG okG =>
    row_end PG hW okG (fun k => ⟨_, rfl, fun st t st' e => by
      show (eCall m__law_stones (aCons (eVar 0) (aCons (eOp2 ixD (eVar 7) (eK (.int 3))) aNil))) [some (.r p), some (.d (ptD (x / 6) (y / 6) G)), some (.d (.int (1 + w))), some (.d sc), none, none, none, some (.d (stD G (x / 6) (y / 6) (1 + w) k))] st = _
      have e3 : ixD (stD G (x / 6) (y / 6) (1 + w) k) (.int 3) = some (.int (he G (1 + w) k)) := rfl
      generalize ptD (x / 6) (y / 6) G = PD at *
      generalize stD G (x / 6) (y / 6) (1 + w) k = SD at *
      generalize stsD t = TT at *
      simp -implicitDefEqProofs [e3, e]⟩) c12.pen
  rcases first_bad (he (sh lg) (1 + w)) (sh lg).length with ok | ⟨n, h1, h2, h3⟩
  · obtain ⟨laid, st3, e3, R, c3⟩ := mk (sh lg) (.list ((List.range (sh lg).length).map (stD (sh lg) (x / 6) (y / 6) (1 + w)))) P1 ok
    refine ⟨_, st3, ?_, R, ⟨by show -30 ≤ x / 6 ∧ x / 6 ≤ 30; omega, by show -30 ≤ y / 6 ∧ y / 6 ≤ 30; omega⟩, c12.trans c3⟩
    have es := fun st => r_law_strips_ok P1 hW ok st
    have l6 : ((List.range (sh lg).length).map (stD (sh lg) (x / 6) (y / 6) (1 + w))).length ≤ 1000000 := by rw [List.length_map, List.length_range]; have := sh_len P.n.1; omega
    have ll : (laid.map stsD).length ≤ 1000000 := by rw [List.length_map]; have := R.n; have := sh_len P.n.1; dsimp only at *; omega
    have tk : st3.take st.length = st3 := List.take_of_length_le (Nat.le_of_eq (c12.trans c3).len)
    have t3 := rw3 (x / 6) (y / 6) (sh lg) laid
    generalize rowD ⟨x / 6, y / 6, sh lg, 1 + w, laid⟩ = RD at *
    generalize laid.map stsD = LD at *
    generalize (List.range (sh lg).length).map (stD (sh lg) (x / 6) (y / 6) (1 + w)) = SS at *
    generalize ptD (x / 6) (y / 6) (sh lg) = P2 at *
    generalize ptD x y lg = PD at *
    generalize (lg.take 4).map lgD = L4 at *
    generalize (sh lg).map lgD = L5 at *
    unfold m__law_row d__law_row
    simp -implicitDefEqProofs [e1, e2, x0, x1, x2, ct, srcW_dt, srcW_dl, lt, ls, l6, ll, wipeE, el, tw, es, e3, t3, tk]
  · obtain ⟨laid, st3, e3, R, c3⟩ := mk ((sh lg).take 1) (.list ((List.range ((sh lg).take 1).length).map (stD ((sh lg).take 1) (x / 6) (y / 6) (1 + w)))) (pt_one P1) (one_ok P1 _)
    refine ⟨_, st3, ?_, R, ⟨by show -30 ≤ x / 6 ∧ x / 6 ≤ 30; omega, by show -30 ≤ y / 6 ∧ y / 6 ≤ 30; omega⟩, c12.trans c3⟩
    have eb := fun st => r_law_strips_bad P1 hW h1 h3 h2 st
    have es := fun st => r_law_strips_ok (pt_one P1) hW (one_ok P1 _) st
    have l6 : ((List.range ((sh lg).take 1).length).map (stD ((sh lg).take 1) (x / 6) (y / 6) (1 + w))).length ≤ 1000000 := by rw [List.length_map, List.length_range]; simp; omega
    have ll : (laid.map stsD).length ≤ 1000000 := by rw [List.length_map]; have := R.n; simp at this; omega
    have tk : st3.take st.length = st3 := List.take_of_length_le (Nat.le_of_eq (c12.trans c3).len)
    have t3 := rw3 (x / 6) (y / 6) ((sh lg).take 1) laid
    have y2 : ixD (ptD (x / 6) (y / 6) (sh lg)) (.int 2) = some (.tuple ((sh lg).map lgD)) := rfl
    have c3' : cutD ((sh lg).map lgD) none (some 1) = ((sh lg).take 1).map lgD := by rw [show (1 : Int) = ((1 : Nat) : Int) from rfl, cutD_take, List.map_take]
    have sl : slD none (some 2) (ptD (x / 6) (y / 6) (sh lg)) = some (.tuple [.int (x / 6), .int (y / 6)]) := rfl
    have ad : addD (.tuple [.int (x / 6), .int (y / 6)]) (.tuple [.tuple (((sh lg).take 1).map lgD)]) = some (ptD (x / 6) (y / 6) ((sh lg).take 1)) := rfl
    have t1 : ∀ st, tupW [.d (.tuple (((sh lg).take 1).map lgD))] st = .ok (.d (.tuple [.tuple (((sh lg).take 1).map lgD)])) st := fun st => rfl
    generalize rowD ⟨x / 6, y / 6, (sh lg).take 1, 1 + w, laid⟩ = RD at *
    generalize laid.map stsD = LD at *
    generalize (List.range ((sh lg).take 1).length).map (stD ((sh lg).take 1) (x / 6) (y / 6) (1 + w)) = SS at *
    generalize ptD (x / 6) (y / 6) ((sh lg).take 1) = P3 at *
    generalize ptD (x / 6) (y / 6) (sh lg) = P2 at *
    generalize ptD x y lg = PD at *
    generalize (lg.take 4).map lgD = L4 at *
    generalize ((sh lg).take 1).map lgD = L6 at *
    generalize (sh lg).map lgD = L5 at *
    unfold m__law_row d__law_row
    simp -implicitDefEqProofs [e1, e2, x0, x1, x2, y2, ct, c3', sl, ad, t1, srcW_dt, srcW_dl, lt, ls, l6, ll, wipeE, el, tw, eb, es, e3, t3, tk]
end
section
variable [Tbl] [FnA]
/-! ## the law's turns -/
theorem rp_b (b : Bool) : ∃ s, reprF [.bool b] = some (.str s) := ⟨_, o_repr (fd_bool b) (by decide) (by decide)⟩
theorem l2_turn {r : Row} (R : RwOk r) (d : PyData) (v0 v1 v2 v3 v4 v5 v9 v12 v13 v14 v15 v16 v17 : Option Wv) (st : Sto) : d_law_l2 [v0, v1, v2, v3, v4, v5, some (.d (rowD r)), some (.d (ptD r.x r.y r.lg)), some (.d (.int (r.W))), v9, some (.d d), none, v12, v13, v14, v15, v16, v17] st = .nx [v0, v1, v2, v3, v4, v5, some (.d (rowD r)), some (.d (ptD r.x r.y r.lg)), some (.d (.int (r.W))), v9, none, none, v12, v13, v14, v15, v16, v17] st := by
  have hr : IsRow (rowD r) := fun st => r_is_row R st
  have e1 := fun st => r_is_rowD R.P R.w d st
  have e2 := fun st => r_law_is_row R.P R.w d st
  have e3 : isRw r.lg r.W d = false → ∀ st, m__law_refused [.d (.tuple [ptD r.x r.y r.lg, .int r.W, d]), .d (rowD r)] st = .ok (.d (.bool true)) st := fun h st => r_refused (fun st => by rw [← h]; exact r_is_rowD R.P R.w d st) hr st
  obtain ⟨s, h1⟩ := rp_b (isRw r.lg r.W d)
  have tw : ∀ a b c st, tupW [.d a, .d b, .d c] st = .ok (.d (.tuple [a, b, c])) st := fun _ _ _ _ => rfl
  generalize rowD r = RD at *
  generalize ptD r.x r.y r.lg = PD at *
  unfold d_law_l2
  cases hb : isRw r.lg r.W d with
  | false =>
    have e3 := e3 hb
    rw [hb] at e1 e2 h1
    simp -implicitDefEqProofs [tw, e1, e2, e3, h1, wipeE]
  | true =>
    rw [hb] at e1 e2 h1
    simp -implicitDefEqProofs [tw, e1, e2, h1, wipeE]
theorem l4_turn {r d : PyData} (hr : IsRow r) (hb : NoRow d) (v0 v1 v2 v3 v4 v5 v7 v8 v9 v10 v11 v12 v13 v15 v16 v17 : Option Wv) (st : Sto) : d_law_l4 [v0, v1, v2, v3, v4, v5, some (.d r), v7, v8, v9, v10, v11, v12, v13, some (.d d), v15, v16, v17] st = .nx [v0, v1, v2, v3, v4, v5, some (.d r), v7, v8, v9, v10, v11, v12, v13, none, v15, v16, v17] st := by
  have e1 := fun st => hb st
  have e2 := fun st => r_refused hb hr st
  unfold d_law_l4
  simp -implicitDefEqProofs [e1, e2, wipeE]
end
section
variable [Tbl] [FnA]
/-! ## the widths; one strip of 21 -/
theorem l3_turn {r : Row} (R : RwOk r) (d : PyData) {w : Int} (hw : 1 ≤ w ∧ w ≤ 9) (v0 v1 v2 v3 v4 v5 v6 v8 v10 v11 v13 v14 v15 v16 v17 : Option Wv) (st : Sto) : d_law_l3 [v0, v1, v2, v3, v4, v5, v6, some (.d (ptD r.x r.y r.lg)), v8, some (.d d), v10, v11, some (.d (.int (w))), v13, v14, v15, v16, v17] st = .nx [v0, v1, v2, v3, v4, v5, v6, some (.d (ptD r.x r.y r.lg)), v8, some (.d d), v10, v11, none, v13, v14, v15, v16, v17] st := by
  have e1 := fun st => r_is_rowD R.P hw d st
  have e2 := fun st => r_law_is_row R.P hw d st
  obtain ⟨s, h1⟩ := rp_b (isRw r.lg w d)
  have tw : ∀ a b c st, tupW [.d a, .d b, .d c] st = .ok (.d (.tuple [a, b, c])) st := fun _ _ _ _ => rfl
  generalize ptD r.x r.y r.lg = PD at *
  unfold d_law_l3
  simp -implicitDefEqProofs [tw, e1, e2, h1, wipeE]
theorem pt_21 : Pt 0 0 [(0, 21)] := ⟨by decide, by decide, by decide, by decide, fun k hk => absurd hk (by simp)⟩
theorem isRw_21 (d : PyData) : isRw [(0, 21)] 1 (.tuple [d]) = isSt 21 d := by
  have h : (List.range [((0 : Nat), (21 : Int))].length).find? (fun k => decide (¬ 1 ≤ he [(0, 21)] 1 k)) = none := by decide +kernel
  unfold isRw
  rw [h]
  show rowB _ _ _ = _
  unfold rowB
  simp
  rfl
theorem l1_turn (d : PyData) (v0 v2 v4 v5 v6 v7 v8 v9 v10 v11 v12 v13 v14 v15 v16 v17 : Option Wv) (st : Sto) : d_law_l1 [v0, some (.d (ptD 0 0 [(0, 21)])), v2, some (.d d), v4, v5, v6, v7, v8, v9, v10, v11, v12, v13, v14, v15, v16, v17] st = .nx [v0, some (.d (ptD 0 0 [(0, 21)])), v2, none, v4, v5, v6, v7, v8, v9, v10, v11, v12, v13, v14, v15, v16, v17] st := by
  have e1 := fun st => r_is_rowD pt_21 (W := 1) (by decide) (.tuple [d]) st
  rw [isRw_21] at e1
  have e2 := fun st => r_law_are_stones (L := 21) (by decide) d st
  obtain ⟨s, h1⟩ := rp_b (isSt 21 d)
  have tw : ∀ a b c st, tupW [.d a, .d b, .d c] st = .ok (.d (.tuple [a, b, c])) st := fun _ _ _ _ => rfl
  have tw1 : ∀ a st, tupW [.d a] st = .ok (.d (.tuple [a])) st := fun _ _ => rfl
  generalize ptD 0 0 [(0, 21)] = PD at *
  unfold d_law_l1
  simp -implicitDefEqProofs [tw, tw1, e1, e2, h1, wipeE]
end
section
variable [Tbl] [FnA]
/-! ## a cell; the law -/
theorem laid_sts {r : Row} (R : RwOk r) : ∀ d ∈ r.laid.map stsD, StsD d := fun d hd => by
  obtain ⟨q, hq, rfl⟩ := List.mem_map.mp hd
  obtain ⟨k, hk, rfl⟩ := List.getElem_of_mem hq
  have h := (R.s k (by have := R.n; omega)).1
  have e : lay r k = r.laid[k] := by unfold lay; rw [List.getElem?_eq_getElem hk]; rfl
  rw [e] at h
  refine ⟨_, rfl, by rw [List.length_map]; exact h, fun e he => ?_⟩
  obtain ⟨q, _, rfl⟩ := List.mem_map.mp he
  exact ⟨_, _, rfl⟩
theorem laid_np (ls : List Sts) : isPath (.tuple (ls.map stsD)) = false := path_tup fun d hd => by
  obtain ⟨q, _, rfl⟩ := List.mem_map.mp hd
  exact ⟨_, rfl⟩
theorem cell (sc : Wv) (v1 v2 : Option Wv) (c : Int) (st : Sto) : ∃ st', d_law_l5 [some sc, v1, v2, none, some (.d (.int (c))), none, none, none, none, none, none, none, none, none, none, none, none, none] st = .nx [some sc, v1, v2, none, none, none, none, none, none, none, none, none, none, none, none, none, none, none] st' := by
  obtain ⟨a, b, d, e1⟩ := r_pen_of c st
  have hp : Pen st.length (st ++ [Ob.lst [.int a, .int b, .int d]]) := ⟨a, b, d, by simp⟩
  obtain ⟨r, st1, e2, R, _, c1⟩ := r_law_row hp
  have hn := R.n
  have hg := R.P.n
  obtain ⟨F, st2, e3, hF, c2'⟩ := r_bent_laid c1.pen (LS := r.laid.map stsD) (by rw [List.length_map]; omega) (laid_sts R)
  have hr : IsRow (rowD r) := fun st => r_is_row R st
  have np := laid_np r.laid
  have l2 := for_same (g := gN 10) (b := d_law_l2) (env := [some sc, v1, v2, none, some (.d (.int (c))), some (.r st.length), some (.d (rowD r)), some (.d (ptD r.x r.y r.lg)), some (.d (.int (r.W))), some (.d (.tuple (r.laid.map stsD))), none, none, none, none, none, none, none, none]) (st := st2) (.tuple (r.laid.map stsD) :: (F ++ [.tuple (r.laid.map stsD)])) fun x _ => ⟨_, rfl, l2_turn R x _ _ _ _ _ _ _ _ _ _ _ _ _ st2⟩
  have l3 := for_same (g := gN 12) (b := d_law_l3) (env := [some sc, v1, v2, none, some (.d (.int (c))), some (.r st.length), some (.d (rowD r)), some (.d (ptD r.x r.y r.lg)), some (.d (.int (r.W))), some (.d (.tuple (r.laid.map stsD))), none, none, none, none, none, none, none, none]) (st := st2) [.int 1, .int 2, .int 3, .int 4, .int 5, .int 6, .int 7, .int 8, .int 9] fun x hx => by
    have h : ∃ w : Int, x = .int w ∧ (1 ≤ w ∧ w ≤ 9) := by
      simp only [List.mem_cons, List.not_mem_nil, or_false] at hx
      rcases hx with rfl | rfl | rfl | rfl | rfl | rfl | rfl | rfl | rfl <;> exact ⟨_, rfl, by decide, by decide⟩
    obtain ⟨w, rfl, hw⟩ := h
    exact ⟨_, rfl, l3_turn R _ hw _ _ _ _ _ _ _ _ _ _ _ _ _ _ _ st2⟩
  generalize hO : [PyData.tuple [ptD r.x r.y r.lg, .int 0, .tuple (r.laid.map stsD)], .tuple [ptD r.x r.y r.lg, .int 10, .tuple (r.laid.map stsD)], .tuple [ptD r.x r.y r.lg, .bool true, .tuple (r.laid.map stsD)], .tuple [ptD r.x r.y r.lg, .none, .tuple (r.laid.map stsD)], .tuple [.none, .int r.W, .tuple (r.laid.map stsD)], .tuple [ptD r.x r.y r.lg, .int r.W]] = OL
  generalize hO2 : [PyData.tuple [ptD r.x r.y r.lg, .int r.W, .tuple (r.laid.map stsD), .int 0], .list [ptD r.x r.y r.lg, .int r.W, .tuple (r.laid.map stsD)], .tuple [.tuple (r.laid.map stsD), .int r.W, ptD r.x r.y r.lg], .tuple [.list [.int r.x, .int r.y, .tuple (r.lg.map lgD)], .int r.W, .tuple (r.laid.map stsD)], .tuple [], .none, .int 3, .dict [], .str "row", .tuple [rowD r]] = OM
  have l4 := for_same (g := gN 14) (b := d_law_l4) (env := [some sc, v1, v2, none, some (.d (.int (c))), some (.r st.length), some (.d (rowD r)), some (.d (ptD r.x r.y r.lg)), some (.d (.int (r.W))), some (.d (.tuple (r.laid.map stsD))), none, none, none, some (.d (.list OL)), none, none, none, none]) (st := st2) (OL ++ OM) fun x hx => by
    have h : NoRow x := by
      rw [← hO, ← hO2] at hx
      simp only [List.mem_append, List.mem_cons, List.not_mem_nil, or_false] at hx
      rcases hx with (rfl | rfl | rfl | rfl | rfl | rfl) | rfl | rfl | rfl | rfl | rfl | rfl | rfl | rfl | rfl | rfl
      · exact nrow3 (.inr rfl) _
      · exact nrow3 (.inr rfl) _
      · exact nrow3 (.inr rfl) _
      · exact nrow3 (.inr rfl) _
      · exact nrow3 (.inl rfl) _
      · exact nrow_tup (by simp)
      · exact nrow_tup (by simp)
      · exact nrow_else fun xs h => by cases h
      · exact nrow3 (.inl np) _
      · exact nrow3 (.inl rfl) _
      · exact nrow_tup (by simp)
      · exact nrow_else fun xs h => by cases h
      · exact nrow_else fun xs h => by cases h
      · exact nrow_else fun xs h => by cases h
      · exact nrow_else fun xs h => by cases h
      · exact nrow_tup (by simp)
    exact ⟨_, rfl, l4_turn hr h _ _ _ _ _ _ _ _ _ _ _ _ _ _ _ _ st2⟩
  have l5 := r_rows_right R st2
  have g7 : gTp (gCn (gN 7) (gCn (gN 8) (gCn (gN 9) gNl))) (.d (rowD r)) [some sc, v1, v2, none, some (.d (.int (c))), some (.r st.length), some (.d (rowD r)), none, none, none, none, none, none, none, none, none, none, none] = some [some sc, v1, v2, none, some (.d (.int (c))), some (.r st.length), some (.d (rowD r)), some (.d (ptD r.x r.y r.lg)), some (.d (.int (r.W))), some (.d (.tuple (r.laid.map stsD))), none, none, none, none, none, none, none, none] := rfl
  have m1 : addD (rowD r) (.tuple [.int 0]) = some (.tuple [ptD r.x r.y r.lg, .int r.W, .tuple (r.laid.map stsD), .int 0]) := rfl
  have m2 : lstF [rowD r] = some (.list [ptD r.x r.y r.lg, .int r.W, .tuple (r.laid.map stsD)]) := rfl
  have m3 : revD (rowD r) = some (.tuple [.tuple (r.laid.map stsD), .int r.W, ptD r.x r.y r.lg]) := rfl
  have m4 : lstF [ptD r.x r.y r.lg] = some (.list [.int r.x, .int r.y, .tuple (r.lg.map lgD)]) := rfl
  have m5 : slD none (some 2) (rowD r) = some (.tuple [ptD r.x r.y r.lg, .int r.W]) := rfl
  have tw : ∀ a b c st, tupW [.d a, .d b, .d c] st = .ok (.d (.tuple [a, b, c])) st := fun _ _ _ _ => rfl
  have tw1 : ∀ a st, tupW [.d a] st = .ok (.d (.tuple [a])) st := fun _ _ => rfl
  have rg : rg2W [.d (.int 1), .d (.int 10)] st2 = .ok ⟨[.int 1, .int 2, .int 3, .int 4, .int 5, .int 6, .int 7, .int 8, .int 9], []⟩ st2 := rfl
  have f1 : 1 + F.length ≤ 1000000 := by omega
  have f2 : F.length + 1 ≤ 1000000 := by omega
  have f3 : F.length + 1 + 1 ≤ 1000000 := by omega
  have f4 : 1 + F.length + 1 ≤ 1000000 := by omega
  have o1 : OL.length = 6 := by rw [← hO]; rfl
  have o2 : OM.length = 10 := by rw [← hO2]; rfl
  have tw0 : ∀ st, tupW [] st = .ok (.d (.tuple [])) st := fun _ => rfl
  refine ⟨st2, ?_⟩
  generalize rowD r = RD at *
  generalize ptD r.x r.y r.lg = PD at *
  generalize PyData.tuple (r.laid.map stsD) = LD at *
  generalize PyData.tuple (r.lg.map lgD) = GD at *
  unfold d_law_l5
  simp -implicitDefEqProofs [e1, e2, g7, e3, l2, l3, l4, l5, m1, m2, m3, m4, m5, tw, tw1, tw0, rg, srcW_dl, srcW_dt, lstW, f1, f2, f3, f4, o1, o2, hO, hO2, wipeE, -forL_cons]
end
section
variable [Tbl] [FnA]
theorem one_list (v0 v1 : Option Wv) {n : Nat} (hn : n ≤ 100) : (eOpN tupF (aCons (eLc (cRg1 (aCons (eVar 16) aNil)) (gN 17) tYs (eTup (aCons (eVar 17) (aCons (eK (.int 1)) aNil))) [15, 17]) aNil)) [v0, v1, none, none, none, none, none, none, none, none, none, none, none, none, none, none, some (.d (.int ((n : Int)))), none] [] = .ok (.d (.tuple ((List.range n).map fun i => PyData.tuple [.int ((0 : Int) + (i : Nat)), .int 1]))) [] := by
  have rg := rg1_ok (i := (n : Int)) [] (by omega) (by omega)
  rw [show ((n : Int).toNat) = n by omega] at rg
  have lc := lcL_mapE (g := gN 17) (c := eTup (aCons (eVar 17) (aCons (eK (.int 1)) aNil))) (env := [v0, v1, none, none, none, none, none, none, none, none, none, none, none, none, none, none, some (.d (.int ((n : Int)))), none]) (st := []) (fun i : Nat => PyData.int (0 + (i : Nat))) (fun i => PyData.tuple [.int ((0 : Int) + (i : Nat)), .int 1]) (List.range n) [] (fun i _ => ⟨_, rfl, rfl⟩)
  rw [List.nil_append, show (List.range n).map (fun i : Nat => PyData.int (0 + (i : Nat))) = rangeD 0 n from rfl] at lc
  have l1 : (rangeD 0 n).length ≤ 1000000 := by rw [rangeD_len]; omega
  have l2 : ((List.range n).map fun i => PyData.tuple [.int ((0 : Int) + (i : Nat)), .int 1]).length ≤ 1000000 := by rw [List.length_map, List.length_range]; omega
  generalize (List.range n).map (fun i => PyData.tuple [.int ((0 : Int) + (i : Nat)), .int 1]) = RR at *
  generalize rangeD 0 n = RG at *
  simp -implicitDefEqProofs [rg, lc, l1, l2]
theorem two_lists (v0 v1 : Option Wv) : ∃ a b : PyData, (eLc (cSeq (eTup (aCons (eK (.int 12)) (aCons (eK (.int 13)) aNil)))) (gN 16) tYs (eOpN tupF (aCons (eLc (cRg1 (aCons (eVar 16) aNil)) (gN 17) tYs (eTup (aCons (eVar 17) (aCons (eK (.int 1)) aNil))) [15, 17]) aNil)) [15, 16]) [v0, v1, none, none, none, none, none, none, none, none, none, none, none, none, none, none, none, none] [] = .ok (.d (.list [a, b])) [] := by
  have lc := lcL_mapE (g := gN 16) (c := eOpN tupF (aCons (eLc (cRg1 (aCons (eVar 16) aNil)) (gN 17) tYs (eTup (aCons (eVar 17) (aCons (eK (.int 1)) aNil))) [15, 17]) aNil)) (env := [v0, v1, none, none, none, none, none, none, none, none, none, none, none, none, none, none, none, none]) (st := []) (fun n : Nat => PyData.int (n : Nat)) (fun n => PyData.tuple ((List.range n).map fun i => PyData.tuple [.int ((0 : Int) + (i : Nat)), .int 1])) [12, 13] [] (fun n hn => ⟨_, rfl, one_list v0 v1 (by simp at hn; omega)⟩)
  have tw2 : ∀ a b st, tupW [.d a, .d b] st = .ok (.d (.tuple [a, b])) st := fun _ _ _ => rfl
  refine ⟨PyData.tuple ((List.range 12).map fun i => PyData.tuple [.int ((0 : Int) + (i : Nat)), .int 1]), PyData.tuple ((List.range 13).map fun i => PyData.tuple [.int ((0 : Int) + (i : Nat)), .int 1]), ?_⟩
  rw [List.nil_append, List.map_cons, List.map_cons, List.map_nil, List.map_cons, List.map_cons, List.map_nil] at lc
  generalize PyData.tuple ((List.range 12).map fun i => PyData.tuple [.int ((0 : Int) + (i : Nat)), .int 1]) = A at *
  generalize PyData.tuple ((List.range 13).map fun i => PyData.tuple [.int ((0 : Int) + (i : Nat)), .int 1]) = B at *
  have lc : lcL (gN 16) tYs (eOpN tupF (aCons (eLc (cRg1 (aCons (eVar 16) aNil)) (gN 17) tYs (eTup (aCons (eVar 17) (aCons (eK (.int 1)) aNil))) [15, 17]) aNil)) [] [v0, v1, none, none, none, none, none, none, none, none, none, none, none, none, none, none, none, none] [.int 12, .int 13] [] [] = .ok [A, B] [] := lc
  simp -implicitDefEqProofs [tw2, srcW_dt, lc]
theorem law_ok (ns : List Int) (h : ns.length ≤ 63) : ∃ st, m_law [.d (.list (ns.map .int))] [] = .ok (.d (.bool true)) st := by
  have e0 := r_cell_at ns 0 []
  have ec : cutD (ns.map PyData.int) (some 1) (some 2) = (cutD ns (some 1) (some 2)).map .int := by unfold cutD; simp
  obtain ⟨a, b, e2⟩ := two_lists (some (.d (.list (ns.map .int)))) (some (.d (ptD 0 0 [(0, 21)])))
  have l1 := for_same (g := gN 3) (b := d_law_l1) (env := [some (.d (.list (ns.map .int))), some (.d (ptD 0 0 [(0, 21)])), some (.d (.list [a, b])), none, none, none, none, none, none, none, none, none, none, none, none, none, none, none]) (st := []) [.tuple [.tuple [.int 0, .int 20]], .tuple [.tuple [.int 0, .int 21]], .tuple [.tuple [.int 1, .int 20]], .tuple [.tuple [.int 1, .int 21]], a, b] fun x _ => ⟨_, rfl, l1_turn x _ _ _ _ _ _ _ _ _ _ _ _ _ _ _ _ []⟩
  obtain ⟨env, st, e1, rfl⟩ := forL_go (g := gN 4) (b := d_law_l5) (fun env _ => env = [some (.d (.list (ns.map .int))), some (.d (ptD 0 0 [(0, 21)])), some (.d (.list [a, b])), none, none, none, none, none, none, none, none, none, none, none, none, none, none, none]) (.int (ns.getD 0 0) :: (cutD ns (some 1) (some 2)).map .int) (fun x hx env st hI => by
    subst hI
    obtain ⟨i, rfl⟩ : ∃ i, x = .int i := by
      rcases List.mem_cons.mp hx with rfl | q
      · exact ⟨_, rfl⟩
      · obtain ⟨i, _, rfl⟩ := List.mem_map.mp q
        exact ⟨i, rfl⟩
    obtain ⟨st', e⟩ := cell (.d (.list (ns.map .int))) (some (.d (ptD 0 0 [(0, 21)]))) (some (.d (.list [a, b]))) i st
    exact ⟨_, _, _, rfl, e, rfl⟩) _ [] rfl
  have hl : (cutD ns (some 1) (some 2)).length ≤ 63 := Nat.le_trans cutD_len h
  have e0' : m__law_cell_at [.d (.list (ns.map .int)), .d (.int 0)] [] = .ok (.d (.int (ns.getD 0 0))) [] := e0
  have tw1 : ∀ a st, tupW [.d a] st = .ok (.d (.tuple [a])) st := fun _ _ => rfl
  have tw2 : ∀ a b st, tupW [.d a, .d b] st = .ok (.d (.tuple [a, b])) st := fun _ _ _ => rfl
  have tl : ∀ st, tupW [.d (.int 0), .d (.int 0), .d (.tuple [.tuple [.str "east", .int 21]])] st = .ok (.d (ptD 0 0 [(0, 21)])) st := fun _ => rfl
  refine ⟨[], ?_⟩
  generalize ns.getD 0 0 = c0 at *
  have hl2 : (cutD ns (some 1) (some 2)).length + 1 ≤ 1000000 := by omega
  generalize ptD 0 0 [(0, 21)] = LN at *
  unfold m_law d_law
  simp -implicitDefEqProofs [e0', tw1, tw2, tl, e2, l1, lstW, ec, Nat.add_comm 1, hl2, srcW_dl, -forL_cons, -x_lc]
  rw [e1]
  simp -implicitDefEqProofs
end
theorem all_mk {P : Program} {w : World} {K : Frg} {h : Heap} {mg : Str → Option Value} {fa : Addr} (X : K.In h) (G : h.Ns mainGlobals mg) (hfa : mg "law" = some (.ref fa)) {ts : List Addr}
    {f_0 : Addr} {od_0 an_0 : Option Addr} {sl_0 : Array (Option Value)} {oc_0 kV_0 dc_0 pm_0 cd_0 ct_0 : Value}
    {f_1 : Addr} {od_1 an_1 : Option Addr} {sl_1 : Array (Option Value)} {oc_1 kV_1 dc_1 pm_1 cd_1 ct_1 : Value}
    {f_2 : Addr} {od_2 an_2 : Option Addr} {sl_2 : Array (Option Value)} {oc_2 kV_2 dc_2 pm_2 cd_2 ct_2 : Value}
    {f_3 : Addr} {od_3 an_3 : Option Addr} {sl_3 : Array (Option Value)} {oc_3 kV_3 dc_3 pm_3 cd_3 ct_3 : Value}
    {f_4 : Addr} {od_4 an_4 : Option Addr} {sl_4 : Array (Option Value)} {oc_4 kV_4 dc_4 pm_4 cd_4 ct_4 : Value}
    {f_5 : Addr} {od_5 an_5 : Option Addr} {sl_5 : Array (Option Value)} {oc_5 kV_5 dc_5 pm_5 cd_5 ct_5 : Value}
    {f_6 : Addr} {od_6 an_6 : Option Addr} {sl_6 : Array (Option Value)} {oc_6 kV_6 dc_6 pm_6 cd_6 ct_6 : Value}
    {f_7 : Addr} {od_7 an_7 : Option Addr} {sl_7 : Array (Option Value)} {oc_7 kV_7 dc_7 pm_7 cd_7 ct_7 : Value}
    {f_8 : Addr} {od_8 an_8 : Option Addr} {sl_8 : Array (Option Value)} {oc_8 kV_8 dc_8 pm_8 cd_8 ct_8 : Value}
    {f_9 : Addr} {od_9 an_9 : Option Addr} {sl_9 : Array (Option Value)} {oc_9 kV_9 dc_9 pm_9 cd_9 ct_9 : Value}
    {f_10 : Addr} {od_10 an_10 : Option Addr} {sl_10 : Array (Option Value)} {oc_10 kV_10 dc_10 pm_10 cd_10 ct_10 : Value}
    {f_11 : Addr} {od_11 an_11 : Option Addr} {sl_11 : Array (Option Value)} {oc_11 kV_11 dc_11 pm_11 cd_11 ct_11 : Value}
    {f_12 : Addr} {od_12 an_12 : Option Addr} {sl_12 : Array (Option Value)} {oc_12 kV_12 dc_12 pm_12 cd_12 ct_12 : Value}
    {f_13 : Addr} {od_13 an_13 : Option Addr} {sl_13 : Array (Option Value)} {oc_13 kV_13 dc_13 pm_13 cd_13 ct_13 : Value}
    {f_14 : Addr} {od_14 an_14 : Option Addr} {sl_14 : Array (Option Value)} {oc_14 kV_14 dc_14 pm_14 cd_14 ct_14 : Value}
    {f_15 : Addr} {od_15 an_15 : Option Addr} {sl_15 : Array (Option Value)} {oc_15 kV_15 dc_15 pm_15 cd_15 ct_15 : Value}
    {f_16 : Addr} {od_16 an_16 : Option Addr} {sl_16 : Array (Option Value)} {oc_16 kV_16 dc_16 pm_16 cd_16 ct_16 : Value}
    {f_17 : Addr} {od_17 an_17 : Option Addr} {sl_17 : Array (Option Value)} {oc_17 kV_17 dc_17 pm_17 cd_17 ct_17 : Value}
    {f_18 : Addr} {od_18 an_18 : Option Addr} {sl_18 : Array (Option Value)} {oc_18 kV_18 dc_18 pm_18 cd_18 ct_18 : Value}
    {f_19 : Addr} {od_19 an_19 : Option Addr} {sl_19 : Array (Option Value)} {oc_19 kV_19 dc_19 pm_19 cd_19 ct_19 : Value}
    {f_20 : Addr} {od_20 an_20 : Option Addr} {sl_20 : Array (Option Value)} {oc_20 kV_20 dc_20 pm_20 cd_20 ct_20 : Value}
    {f_21 : Addr} {od_21 an_21 : Option Addr} {sl_21 : Array (Option Value)} {oc_21 kV_21 dc_21 pm_21 cd_21 ct_21 : Value}
    {f_22 : Addr} {od_22 an_22 : Option Addr} {sl_22 : Array (Option Value)} {oc_22 kV_22 dc_22 pm_22 cd_22 ct_22 : Value}
    {f_23 : Addr} {od_23 an_23 : Option Addr} {sl_23 : Array (Option Value)} {oc_23 kV_23 dc_23 pm_23 cd_23 ct_23 : Value}
    {f_24 : Addr} {od_24 an_24 : Option Addr} {sl_24 : Array (Option Value)} {oc_24 kV_24 dc_24 pm_24 cd_24 ct_24 : Value}
    {f_25 : Addr} {od_25 an_25 : Option Addr} {sl_25 : Array (Option Value)} {oc_25 kV_25 dc_25 pm_25 cd_25 ct_25 : Value}
    {f_26 : Addr} {od_26 an_26 : Option Addr} {sl_26 : Array (Option Value)} {oc_26 kV_26 dc_26 pm_26 cd_26 ct_26 : Value}
    {f_27 : Addr} {od_27 an_27 : Option Addr} {sl_27 : Array (Option Value)} {oc_27 kV_27 dc_27 pm_27 cd_27 ct_27 : Value}
    {f_28 : Addr} {od_28 an_28 : Option Addr} {sl_28 : Array (Option Value)} {oc_28 kV_28 dc_28 pm_28 cd_28 ct_28 : Value}
    {f_29 : Addr} {od_29 an_29 : Option Addr} {sl_29 : Array (Option Value)} {oc_29 kV_29 dc_29 pm_29 cd_29 ct_29 : Value}
    {f_30 : Addr} {od_30 an_30 : Option Addr} {sl_30 : Array (Option Value)} {oc_30 kV_30 dc_30 pm_30 cd_30 ct_30 : Value}
    {f_31 : Addr} {od_31 an_31 : Option Addr} {sl_31 : Array (Option Value)} {oc_31 kV_31 dc_31 pm_31 cd_31 ct_31 : Value}
    {f_32 : Addr} {od_32 an_32 : Option Addr} {sl_32 : Array (Option Value)} {oc_32 kV_32 dc_32 pm_32 cd_32 ct_32 : Value}
    {f_33 : Addr} {od_33 an_33 : Option Addr} {sl_33 : Array (Option Value)} {oc_33 kV_33 dc_33 pm_33 cd_33 ct_33 : Value}
    {f_34 : Addr} {od_34 an_34 : Option Addr} {sl_34 : Array (Option Value)} {oc_34 kV_34 dc_34 pm_34 cd_34 ct_34 : Value}
    {f_35 : Addr} {od_35 an_35 : Option Addr} {sl_35 : Array (Option Value)} {oc_35 kV_35 dc_35 pm_35 cd_35 ct_35 : Value}
    {f_36 : Addr} {od_36 an_36 : Option Addr} {sl_36 : Array (Option Value)} {oc_36 kV_36 dc_36 pm_36 cd_36 ct_36 : Value}
    {f_37 : Addr} {od_37 an_37 : Option Addr} {sl_37 : Array (Option Value)} {oc_37 kV_37 dc_37 pm_37 cd_37 ct_37 : Value}
    {f_38 : Addr} {od_38 an_38 : Option Addr} {sl_38 : Array (Option Value)} {oc_38 kV_38 dc_38 pm_38 cd_38 ct_38 : Value}
    {f_39 : Addr} {od_39 an_39 : Option Addr} {sl_39 : Array (Option Value)} {oc_39 kV_39 dc_39 pm_39 cd_39 ct_39 : Value}
    {f_40 : Addr} {od_40 an_40 : Option Addr} {sl_40 : Array (Option Value)} {oc_40 kV_40 dc_40 pm_40 cd_40 ct_40 : Value}
    {f_41 : Addr} {od_41 an_41 : Option Addr} {sl_41 : Array (Option Value)} {oc_41 kV_41 dc_41 pm_41 ct_41 : Value} {cc_41 TP_41 : Addr} {occ_41 : Value} {odd_41 : Option Addr} {vs_41 : Array Value} {slc_41 : Array (Option Value)}
    {f_42 : Addr} {od_42 an_42 : Option Addr} {sl_42 : Array (Option Value)} {oc_42 kV_42 dc_42 pm_42 cd_42 ct_42 : Value}
    {f_43 : Addr} {od_43 an_43 : Option Addr} {sl_43 : Array (Option Value)} {oc_43 kV_43 dc_43 pm_43 cd_43 ct_43 : Value}
    {f_44 : Addr} {od_44 an_44 : Option Addr} {sl_44 : Array (Option Value)} {oc_44 kV_44 dc_44 pm_44 cd_44 ct_44 : Value}
    {f_45 : Addr} {od_45 an_45 : Option Addr} {sl_45 : Array (Option Value)} {oc_45 kV_45 dc_45 pm_45 cd_45 ct_45 : Value}
    {f_46 : Addr} {od_46 an_46 : Option Addr} {sl_46 : Array (Option Value)} {oc_46 kV_46 dc_46 pm_46 cd_46 ct_46 : Value}
    {f_47 : Addr} {od_47 an_47 : Option Addr} {sl_47 : Array (Option Value)} {oc_47 kV_47 dc_47 pm_47 ct_47 : Value} {cc_47 TP_47 : Addr} {occ_47 : Value} {odd_47 : Option Addr} {vs_47 : Array Value} {slc_47 : Array (Option Value)}
    {f_48 : Addr} {od_48 an_48 : Option Addr} {sl_48 : Array (Option Value)} {oc_48 kV_48 dc_48 pm_48 cd_48 ct_48 : Value}
    {t_MOST_FAR : Tok}
    {t_MOST_JOINT : Tok}
    {t_MOST_LEGS : Tok}
    {t_MOST_LONG : Tok}
    {t_MOST_ROWS : Tok}
    {t_MOST_STONE : Tok}
    {t_MOST_STONES : Tok}
    {t_MOST_WIDTH : Tok}
    {t_STEPS_0_0 : Tok}
    {t_STEPS_0_1 : Tok}
    {p_STEPS_0 : Addr} {n_STEPS_0 : Nat} {sl_STEPS_0 : Array (Option Value)}
    {t_STEPS_1_0 : Tok}
    {t_STEPS_1_1 : Tok}
    {p_STEPS_1 : Addr} {n_STEPS_1 : Nat} {sl_STEPS_1 : Array (Option Value)}
    {t_STEPS_2_0 : Tok}
    {t_STEPS_2_1 : Tok}
    {p_STEPS_2 : Addr} {n_STEPS_2 : Nat} {sl_STEPS_2 : Array (Option Value)}
    {t_STEPS_3_0 : Tok}
    {t_STEPS_3_1 : Tok}
    {p_STEPS_3 : Addr} {n_STEPS_3 : Nat} {sl_STEPS_3 : Array (Option Value)}
    {p_STEPS : Addr} {n_STEPS : Nat} {sl_STEPS : Array (Option Value)}
    {t_WAYS_0 : Tok}
    {t_WAYS_1 : Tok}
    {t_WAYS_2 : Tok}
    {t_WAYS_3 : Tok}
    {p_WAYS : Addr} {n_WAYS : Nat} {sl_WAYS : Array (Option Value)}
    {C_StoneError : Addr}
    {C_NoStrip F_NoStrip : Addr} {od_NoStrip an_NoStrip : Option Addr} {sl_NoStrip : Array (Option Value)} {oc_NoStrip kV_NoStrip dc_NoStrip pm_NoStrip cd_NoStrip ct_NoStrip : Value}
    {xnm_NoStrip xqn_NoStrip : Str} {xN_NoStrip : Addr} {xbs_NoStrip xbm_NoStrip xsub_NoStrip : List Value} {xsn_NoStrip : List Str} {xab_NoStrip : Bool} {xcol_NoStrip : Option Bool} {xdd_NoStrip : Option Addr} {xk0_NoStrip xk1_NoStrip xk2_NoStrip xk3_NoStrip xk5_NoStrip : Option Value}
    {C_NoJoints : Addr}
    {C_NoPlace : Addr}
    {C_NoRow : Addr}
    (a_0 : PySem.W.nsIn K mainGlobals "_law_pen_of" = some (some (.ref f_0)))
    (l_0 : K.lookup f_0 = some ⟨oc_0, od_0, .func (PySem.W.fnOf "_law_pen_of" "_law_pen_of" (defArgs s__law_pen_of) (defBody s__law_pen_of) (defScope s__law_pen_of) .none kV_0 dc_0 pm_0 an_0 cd_0 ct_0), sl_0⟩)
    (c_0 : PySem.W.codeIn K cd_0 "_law_pen_of" = true)
    (k_0 : PySem.W.keepIn K (.ref f_0) = true)
    (a_1 : PySem.W.nsIn K mainGlobals "_law_step" = some (some (.ref f_1)))
    (l_1 : K.lookup f_1 = some ⟨oc_1, od_1, .func (PySem.W.fnOf "_law_step" "_law_step" (defArgs s__law_step) (defBody s__law_step) (defScope s__law_step) .none kV_1 dc_1 pm_1 an_1 cd_1 ct_1), sl_1⟩)
    (c_1 : PySem.W.codeIn K cd_1 "_law_step" = true)
    (k_1 : PySem.W.keepIn K (.ref f_1) = true)
    (a_2 : PySem.W.nsIn K mainGlobals "_law_side" = some (some (.ref f_2)))
    (l_2 : K.lookup f_2 = some ⟨oc_2, od_2, .func (PySem.W.fnOf "_law_side" "_law_side" (defArgs s__law_side) (defBody s__law_side) (defScope s__law_side) .none kV_2 dc_2 pm_2 an_2 cd_2 ct_2), sl_2⟩)
    (c_2 : PySem.W.codeIn K cd_2 "_law_side" = true)
    (k_2 : PySem.W.keepIn K (.ref f_2) = true)
    (a_3 : PySem.W.nsIn K mainGlobals "_law_strips" = some (some (.ref f_3)))
    (l_3 : K.lookup f_3 = some ⟨oc_3, od_3, .func (PySem.W.fnOf "_law_strips" "_law_strips" (defArgs s__law_strips) (defBody s__law_strips) (defScope s__law_strips) .none kV_3 dc_3 pm_3 an_3 cd_3 ct_3), sl_3⟩)
    (c_3 : PySem.W.codeIn K cd_3 "_law_strips" = true)
    (k_3 : PySem.W.keepIn K (.ref f_3) = true)
    (a_4 : PySem.W.nsIn K mainGlobals "_law_next" = some (some (.ref f_4)))
    (l_4 : K.lookup f_4 = some ⟨oc_4, od_4, .func (PySem.W.fnOf "_law_next" "_law_next" (defArgs s__law_next) (defBody s__law_next) (defScope s__law_next) .none kV_4 dc_4 pm_4 an_4 cd_4 ct_4), sl_4⟩)
    (c_4 : PySem.W.codeIn K cd_4 "_law_next" = true)
    (k_4 : PySem.W.keepIn K (.ref f_4) = true)
    (a_5 : PySem.W.nsIn K mainGlobals "_law_draw" = some (some (.ref f_5)))
    (l_5 : K.lookup f_5 = some ⟨oc_5, od_5, .func (PySem.W.fnOf "_law_draw" "_law_draw" (defArgs s__law_draw) (defBody s__law_draw) (defScope s__law_draw) .none kV_5 dc_5 pm_5 an_5 cd_5 ct_5), sl_5⟩)
    (c_5 : PySem.W.codeIn K cd_5 "_law_draw" = true)
    (k_5 : PySem.W.keepIn K (.ref f_5) = true)
    (a_6 : PySem.W.nsIn K mainGlobals "_law_path" = some (some (.ref f_6)))
    (l_6 : K.lookup f_6 = some ⟨oc_6, od_6, .func (PySem.W.fnOf "_law_path" "_law_path" (defArgs s__law_path) (defBody s__law_path) (defScope s__law_path) .none kV_6 dc_6 pm_6 an_6 cd_6 ct_6), sl_6⟩)
    (c_6 : PySem.W.codeIn K cd_6 "_law_path" = true)
    (k_6 : PySem.W.keepIn K (.ref f_6) = true)
    (a_7 : PySem.W.nsIn K mainGlobals "_law_stones" = some (some (.ref f_7)))
    (l_7 : K.lookup f_7 = some ⟨oc_7, od_7, .func (PySem.W.fnOf "_law_stones" "_law_stones" (defArgs s__law_stones) (defBody s__law_stones) (defScope s__law_stones) .none kV_7 dc_7 pm_7 an_7 cd_7 ct_7), sl_7⟩)
    (c_7 : PySem.W.codeIn K cd_7 "_law_stones" = true)
    (k_7 : PySem.W.keepIn K (.ref f_7) = true)
    (a_8 : PySem.W.nsIn K mainGlobals "_law_row" = some (some (.ref f_8)))
    (l_8 : K.lookup f_8 = some ⟨oc_8, od_8, .func (PySem.W.fnOf "_law_row" "_law_row" (defArgs s__law_row) (defBody s__law_row) (defScope s__law_row) .none kV_8 dc_8 pm_8 an_8 cd_8 ct_8), sl_8⟩)
    (c_8 : PySem.W.codeIn K cd_8 "_law_row" = true)
    (k_8 : PySem.W.keepIn K (.ref f_8) = true)
    (a_9 : PySem.W.nsIn K mainGlobals "_law_cell_at" = some (some (.ref f_9)))
    (l_9 : K.lookup f_9 = some ⟨oc_9, od_9, .func (PySem.W.fnOf "_law_cell_at" "_law_cell_at" (defArgs s__law_cell_at) (defBody s__law_cell_at) (defScope s__law_cell_at) .none kV_9 dc_9 pm_9 an_9 cd_9 ct_9), sl_9⟩)
    (c_9 : PySem.W.codeIn K cd_9 "_law_cell_at" = true)
    (k_9 : PySem.W.keepIn K (.ref f_9) = true)
    (a_10 : PySem.W.nsIn K mainGlobals "_law_is" = some (some (.ref f_10)))
    (l_10 : K.lookup f_10 = some ⟨oc_10, od_10, .func (PySem.W.fnOf "_law_is" "_law_is" (defArgs s__law_is) (defBody s__law_is) (defScope s__law_is) .none kV_10 dc_10 pm_10 an_10 cd_10 ct_10), sl_10⟩)
    (c_10 : PySem.W.codeIn K cd_10 "_law_is" = true)
    (k_10 : PySem.W.keepIn K (.ref f_10) = true)
    (a_11 : PySem.W.nsIn K mainGlobals "_law_are_stones" = some (some (.ref f_11)))
    (l_11 : K.lookup f_11 = some ⟨oc_11, od_11, .func (PySem.W.fnOf "_law_are_stones" "_law_are_stones" (defArgs s__law_are_stones) (defBody s__law_are_stones) (defScope s__law_are_stones) .none kV_11 dc_11 pm_11 an_11 cd_11 ct_11), sl_11⟩)
    (c_11 : PySem.W.codeIn K cd_11 "_law_are_stones" = true)
    (k_11 : PySem.W.keepIn K (.ref f_11) = true)
    (a_12 : PySem.W.nsIn K mainGlobals "_law_is_row" = some (some (.ref f_12)))
    (l_12 : K.lookup f_12 = some ⟨oc_12, od_12, .func (PySem.W.fnOf "_law_is_row" "_law_is_row" (defArgs s__law_is_row) (defBody s__law_is_row) (defScope s__law_is_row) .none kV_12 dc_12 pm_12 an_12 cd_12 ct_12), sl_12⟩)
    (c_12 : PySem.W.codeIn K cd_12 "_law_is_row" = true)
    (k_12 : PySem.W.keepIn K (.ref f_12) = true)
    (a_13 : PySem.W.nsIn K mainGlobals "_law_flags" = some (some (.ref f_13)))
    (l_13 : K.lookup f_13 = some ⟨oc_13, od_13, .func (PySem.W.fnOf "_law_flags" "_law_flags" (defArgs s__law_flags) (defBody s__law_flags) (defScope s__law_flags) .none kV_13 dc_13 pm_13 an_13 cd_13 ct_13), sl_13⟩)
    (c_13 : PySem.W.codeIn K cd_13 "_law_flags" = true)
    (k_13 : PySem.W.keepIn K (.ref f_13) = true)
    (a_14 : PySem.W.nsIn K mainGlobals "_law_word" = some (some (.ref f_14)))
    (l_14 : K.lookup f_14 = some ⟨oc_14, od_14, .func (PySem.W.fnOf "_law_word" "_law_word" (defArgs s__law_word) (defBody s__law_word) (defScope s__law_word) .none kV_14 dc_14 pm_14 an_14 cd_14 ct_14), sl_14⟩)
    (c_14 : PySem.W.codeIn K cd_14 "_law_word" = true)
    (k_14 : PySem.W.keepIn K (.ref f_14) = true)
    (a_15 : PySem.W.nsIn K mainGlobals "quarter" = some (some (.ref f_15)))
    (l_15 : K.lookup f_15 = some ⟨oc_15, od_15, .func (PySem.W.fnOf "quarter" "quarter" (defArgs s_quarter) (defBody s_quarter) (defScope s_quarter) .none kV_15 dc_15 pm_15 an_15 cd_15 ct_15), sl_15⟩)
    (c_15 : PySem.W.codeIn K cd_15 "quarter" = true)
    (k_15 : PySem.W.keepIn K (.ref f_15) = true)
    (a_16 : PySem.W.nsIn K mainGlobals "bend_sides" = some (some (.ref f_16)))
    (l_16 : K.lookup f_16 = some ⟨oc_16, od_16, .func (PySem.W.fnOf "bend_sides" "bend_sides" (defArgs s_bend_sides) (defBody s_bend_sides) (defScope s_bend_sides) .none kV_16 dc_16 pm_16 an_16 cd_16 ct_16), sl_16⟩)
    (c_16 : PySem.W.codeIn K cd_16 "bend_sides" = true)
    (k_16 : PySem.W.keepIn K (.ref f_16) = true)
    (a_17 : PySem.W.nsIn K mainGlobals "gone" = some (some (.ref f_17)))
    (l_17 : K.lookup f_17 = some ⟨oc_17, od_17, .func (PySem.W.fnOf "gone" "gone" (defArgs s_gone) (defBody s_gone) (defScope s_gone) .none kV_17 dc_17 pm_17 an_17 cd_17 ct_17), sl_17⟩)
    (c_17 : PySem.W.codeIn K cd_17 "gone" = true)
    (k_17 : PySem.W.keepIn K (.ref f_17) = true)
    (a_18 : PySem.W.nsIn K mainGlobals "leg_points" = some (some (.ref f_18)))
    (l_18 : K.lookup f_18 = some ⟨oc_18, od_18, .func (PySem.W.fnOf "leg_points" "leg_points" (defArgs s_leg_points) (defBody s_leg_points) (defScope s_leg_points) .none kV_18 dc_18 pm_18 an_18 cd_18 ct_18), sl_18⟩)
    (c_18 : PySem.W.codeIn K cd_18 "leg_points" = true)
    (k_18 : PySem.W.keepIn K (.ref f_18) = true)
    (a_19 : PySem.W.nsIn K mainGlobals "strips_by" = some (some (.ref f_19)))
    (l_19 : K.lookup f_19 = some ⟨oc_19, od_19, .func (PySem.W.fnOf "strips_by" "strips_by" (defArgs s_strips_by) (defBody s_strips_by) (defScope s_strips_by) .none kV_19 dc_19 pm_19 an_19 cd_19 ct_19), sl_19⟩)
    (c_19 : PySem.W.codeIn K cd_19 "strips_by" = true)
    (k_19 : PySem.W.keepIn K (.ref f_19) = true)
    (a_20 : PySem.W.nsIn K mainGlobals "is_whole" = some (some (.ref f_20)))
    (l_20 : K.lookup f_20 = some ⟨oc_20, od_20, .func (PySem.W.fnOf "is_whole" "is_whole" (defArgs s_is_whole) (defBody s_is_whole) (defScope s_is_whole) .none kV_20 dc_20 pm_20 an_20 cd_20 ct_20), sl_20⟩)
    (c_20 : PySem.W.codeIn K cd_20 "is_whole" = true)
    (k_20 : PySem.W.keepIn K (.ref f_20) = true)
    (a_21 : PySem.W.nsIn K mainGlobals "is_from_to" = some (some (.ref f_21)))
    (l_21 : K.lookup f_21 = some ⟨oc_21, od_21, .func (PySem.W.fnOf "is_from_to" "is_from_to" (defArgs s_is_from_to) (defBody s_is_from_to) (defScope s_is_from_to) .none kV_21 dc_21 pm_21 an_21 cd_21 ct_21), sl_21⟩)
    (c_21 : PySem.W.codeIn K cd_21 "is_from_to" = true)
    (k_21 : PySem.W.keepIn K (.ref f_21) = true)
    (a_22 : PySem.W.nsIn K mainGlobals "is_leg" = some (some (.ref f_22)))
    (l_22 : K.lookup f_22 = some ⟨oc_22, od_22, .func (PySem.W.fnOf "is_leg" "is_leg" (defArgs s_is_leg) (defBody s_is_leg) (defScope s_is_leg) .none kV_22 dc_22 pm_22 an_22 cd_22 ct_22), sl_22⟩)
    (c_22 : PySem.W.codeIn K cd_22 "is_leg" = true)
    (k_22 : PySem.W.keepIn K (.ref f_22) = true)
    (a_23 : PySem.W.nsIn K mainGlobals "is_path" = some (some (.ref f_23)))
    (l_23 : K.lookup f_23 = some ⟨oc_23, od_23, .func (PySem.W.fnOf "is_path" "is_path" (defArgs s_is_path) (defBody s_is_path) (defScope s_is_path) .none kV_23 dc_23 pm_23 an_23 cd_23 ct_23), sl_23⟩)
    (c_23 : PySem.W.codeIn K cd_23 "is_path" = true)
    (k_23 : PySem.W.keepIn K (.ref f_23) = true)
    (a_24 : PySem.W.nsIn K mainGlobals "strips_or_none" = some (some (.ref f_24)))
    (l_24 : K.lookup f_24 = some ⟨oc_24, od_24, .func (PySem.W.fnOf "strips_or_none" "strips_or_none" (defArgs s_strips_or_none) (defBody s_strips_or_none) (defScope s_strips_or_none) .none kV_24 dc_24 pm_24 an_24 cd_24 ct_24), sl_24⟩)
    (c_24 : PySem.W.codeIn K cd_24 "strips_or_none" = true)
    (k_24 : PySem.W.keepIn K (.ref f_24) = true)
    (a_25 : PySem.W.nsIn K mainGlobals "are_stones" = some (some (.ref f_25)))
    (l_25 : K.lookup f_25 = some ⟨oc_25, od_25, .func (PySem.W.fnOf "are_stones" "are_stones" (defArgs s_are_stones) (defBody s_are_stones) (defScope s_are_stones) .none kV_25 dc_25 pm_25 an_25 cd_25 ct_25), sl_25⟩)
    (c_25 : PySem.W.codeIn K cd_25 "are_stones" = true)
    (k_25 : PySem.W.keepIn K (.ref f_25) = true)
    (a_26 : PySem.W.nsIn K mainGlobals "is_row" = some (some (.ref f_26)))
    (l_26 : K.lookup f_26 = some ⟨oc_26, od_26, .func (PySem.W.fnOf "is_row" "is_row" (defArgs s_is_row) (defBody s_is_row) (defScope s_is_row) .none kV_26 dc_26 pm_26 an_26 cd_26 ct_26), sl_26⟩)
    (c_26 : PySem.W.codeIn K cd_26 "is_row" = true)
    (k_26 : PySem.W.keepIn K (.ref f_26) = true)
    (a_27 : PySem.W.nsIn K mainGlobals "need_rows" = some (some (.ref f_27)))
    (l_27 : K.lookup f_27 = some ⟨oc_27, od_27, .func (PySem.W.fnOf "need_rows" "need_rows" (defArgs s_need_rows) (defBody s_need_rows) (defScope s_need_rows) .none kV_27 dc_27 pm_27 an_27 cd_27 ct_27), sl_27⟩)
    (c_27 : PySem.W.codeIn K cd_27 "need_rows" = true)
    (k_27 : PySem.W.keepIn K (.ref f_27) = true)
    (a_28 : PySem.W.nsIn K mainGlobals "need_square" = some (some (.ref f_28)))
    (l_28 : K.lookup f_28 = some ⟨oc_28, od_28, .func (PySem.W.fnOf "need_square" "need_square" (defArgs s_need_square) (defBody s_need_square) (defScope s_need_square) .none kV_28 dc_28 pm_28 an_28 cd_28 ct_28), sl_28⟩)
    (c_28 : PySem.W.codeIn K cd_28 "need_square" = true)
    (k_28 : PySem.W.keepIn K (.ref f_28) = true)
    (a_29 : PySem.W.nsIn K mainGlobals "at_square" = some (some (.ref f_29)))
    (l_29 : K.lookup f_29 = some ⟨oc_29, od_29, .func (PySem.W.fnOf "at_square" "at_square" (defArgs s_at_square) (defBody s_at_square) (defScope s_at_square) .none kV_29 dc_29 pm_29 an_29 cd_29 ct_29), sl_29⟩)
    (c_29 : PySem.W.codeIn K cd_29 "at_square" = true)
    (k_29 : PySem.W.keepIn K (.ref f_29) = true)
    (a_30 : PySem.W.nsIn K mainGlobals "need_row" = some (some (.ref f_30)))
    (l_30 : K.lookup f_30 = some ⟨oc_30, od_30, .func (PySem.W.fnOf "need_row" "need_row" (defArgs s_need_row) (defBody s_need_row) (defScope s_need_row) .none kV_30 dc_30 pm_30 an_30 cd_30 ct_30), sl_30⟩)
    (c_30 : PySem.W.codeIn K cd_30 "need_row" = true)
    (k_30 : PySem.W.keepIn K (.ref f_30) = true)
    (a_31 : PySem.W.nsIn K mainGlobals "are_joints" = some (some (.ref f_31)))
    (l_31 : K.lookup f_31 = some ⟨oc_31, od_31, .func (PySem.W.fnOf "are_joints" "are_joints" (defArgs s_are_joints) (defBody s_are_joints) (defScope s_are_joints) .none kV_31 dc_31 pm_31 an_31 cd_31 ct_31), sl_31⟩)
    (c_31 : PySem.W.codeIn K cd_31 "are_joints" = true)
    (k_31 : PySem.W.keepIn K (.ref f_31) = true)
    (a_32 : PySem.W.nsIn K mainGlobals "need_joints" = some (some (.ref f_32)))
    (l_32 : K.lookup f_32 = some ⟨oc_32, od_32, .func (PySem.W.fnOf "need_joints" "need_joints" (defArgs s_need_joints) (defBody s_need_joints) (defScope s_need_joints) .none kV_32 dc_32 pm_32 an_32 cd_32 ct_32), sl_32⟩)
    (c_32 : PySem.W.codeIn K cd_32 "need_joints" = true)
    (k_32 : PySem.W.keepIn K (.ref f_32) = true)
    (a_33 : PySem.W.nsIn K mainGlobals "in_joints" = some (some (.ref f_33)))
    (l_33 : K.lookup f_33 = some ⟨oc_33, od_33, .func (PySem.W.fnOf "in_joints" "in_joints" (defArgs s_in_joints) (defBody s_in_joints) (defScope s_in_joints) .none kV_33 dc_33 pm_33 an_33 cd_33 ct_33), sl_33⟩)
    (c_33 : PySem.W.codeIn K cd_33 "in_joints" = true)
    (k_33 : PySem.W.keepIn K (.ref f_33) = true)
    (a_34 : PySem.W.nsIn K mainGlobals "rectangle" = some (some (.ref f_34)))
    (l_34 : K.lookup f_34 = some ⟨oc_34, od_34, .func (PySem.W.fnOf "rectangle" "rectangle" (defArgs s_rectangle) (defBody s_rectangle) (defScope s_rectangle) .none kV_34 dc_34 pm_34 an_34 cd_34 ct_34), sl_34⟩)
    (c_34 : PySem.W.codeIn K cd_34 "rectangle" = true)
    (k_34 : PySem.W.keepIn K (.ref f_34) = true)
    (a_35 : PySem.W.nsIn K mainGlobals "rectangles" = some (some (.ref f_35)))
    (l_35 : K.lookup f_35 = some ⟨oc_35, od_35, .func (PySem.W.fnOf "rectangles" "rectangles" (defArgs s_rectangles) (defBody s_rectangles) (defScope s_rectangles) .none kV_35 dc_35 pm_35 an_35 cd_35 ct_35), sl_35⟩)
    (c_35 : PySem.W.codeIn K cd_35 "rectangles" = true)
    (k_35 : PySem.W.keepIn K (.ref f_35) = true)
    (a_36 : PySem.W.nsIn K mainGlobals "all_stones" = some (some (.ref f_36)))
    (l_36 : K.lookup f_36 = some ⟨oc_36, od_36, .func (PySem.W.fnOf "all_stones" "all_stones" (defArgs s_all_stones) (defBody s_all_stones) (defScope s_all_stones) .none kV_36 dc_36 pm_36 an_36 cd_36 ct_36), sl_36⟩)
    (c_36 : PySem.W.codeIn K cd_36 "all_stones" = true)
    (k_36 : PySem.W.keepIn K (.ref f_36) = true)
    (a_37 : PySem.W.nsIn K mainGlobals "cover" = some (some (.ref f_37)))
    (l_37 : K.lookup f_37 = some ⟨oc_37, od_37, .func (PySem.W.fnOf "cover" "cover" (defArgs s_cover) (defBody s_cover) (defScope s_cover) .none kV_37 dc_37 pm_37 an_37 cd_37 ct_37), sl_37⟩)
    (c_37 : PySem.W.codeIn K cd_37 "cover" = true)
    (k_37 : PySem.W.keepIn K (.ref f_37) = true)
    (a_38 : PySem.W.nsIn K mainGlobals "over_by" = some (some (.ref f_38)))
    (l_38 : K.lookup f_38 = some ⟨oc_38, od_38, .func (PySem.W.fnOf "over_by" "over_by" (defArgs s_over_by) (defBody s_over_by) (defScope s_over_by) .none kV_38 dc_38 pm_38 an_38 cd_38 ct_38), sl_38⟩)
    (c_38 : PySem.W.codeIn K cd_38 "over_by" = true)
    (k_38 : PySem.W.keepIn K (.ref f_38) = true)
    (a_39 : PySem.W.nsIn K mainGlobals "first_over" = some (some (.ref f_39)))
    (l_39 : K.lookup f_39 = some ⟨oc_39, od_39, .func (PySem.W.fnOf "first_over" "first_over" (defArgs s_first_over) (defBody s_first_over) (defScope s_first_over) .none kV_39 dc_39 pm_39 an_39 cd_39 ct_39), sl_39⟩)
    (c_39 : PySem.W.codeIn K cd_39 "first_over" = true)
    (k_39 : PySem.W.keepIn K (.ref f_39) = true)
    (a_40 : PySem.W.nsIn K mainGlobals "area_of" = some (some (.ref f_40)))
    (l_40 : K.lookup f_40 = some ⟨oc_40, od_40, .func (PySem.W.fnOf "area_of" "area_of" (defArgs s_area_of) (defBody s_area_of) (defScope s_area_of) .none kV_40 dc_40 pm_40 an_40 cd_40 ct_40), sl_40⟩)
    (c_40 : PySem.W.codeIn K cd_40 "area_of" = true)
    (k_40 : PySem.W.keepIn K (.ref f_40) = true)
    (a_41 : PySem.W.nsIn K mainGlobals "_law_rows_right" = some (some (.ref f_41)))
    (l_41 : K.lookup f_41 = some ⟨oc_41, od_41, .func (PySem.W.fnOf "_law_rows_right" "_law_rows_right" (defArgs s__law_rows_right) (defBody s__law_rows_right) (defScope s__law_rows_right) .none kV_41 dc_41 pm_41 an_41 (.ref cc_41) ct_41), sl_41⟩)
    (c_41 : PySem.W.codeIn K (.ref cc_41) "_law_rows_right" = true)
    (k_41 : PySem.W.keepIn K (.ref f_41) = true)
    (lu_41 : K.lookup cc_41 = some ⟨occ_41, odd_41, .fields vs_41, slc_41⟩)
    (lp_41 : (vs_41[11]? : Option Value) = some (.ref TP_41))
    (lt_41 : PySem.W.tabIn K "_law_rows_right" = some (cc_41, TP_41))
    (lk_41 : K.lookup TP_41 = none)
    (lh_41 : PySem.W.codeHdIn K cc_41 TP_41 = true)
    (lm_41 : TP_41 ∈ ts)
    (a_42 : PySem.W.nsIn K mainGlobals "_law_bent_stones" = some (some (.ref f_42)))
    (l_42 : K.lookup f_42 = some ⟨oc_42, od_42, .func (PySem.W.fnOf "_law_bent_stones" "_law_bent_stones" (defArgs s__law_bent_stones) (defBody s__law_bent_stones) (defScope s__law_bent_stones) .none kV_42 dc_42 pm_42 an_42 cd_42 ct_42), sl_42⟩)
    (c_42 : PySem.W.codeIn K cd_42 "_law_bent_stones" = true)
    (k_42 : PySem.W.keepIn K (.ref f_42) = true)
    (a_43 : PySem.W.nsIn K mainGlobals "_law_bent_laid" = some (some (.ref f_43)))
    (l_43 : K.lookup f_43 = some ⟨oc_43, od_43, .func (PySem.W.fnOf "_law_bent_laid" "_law_bent_laid" (defArgs s__law_bent_laid) (defBody s__law_bent_laid) (defScope s__law_bent_laid) .none kV_43 dc_43 pm_43 an_43 cd_43 ct_43), sl_43⟩)
    (c_43 : PySem.W.codeIn K cd_43 "_law_bent_laid" = true)
    (k_43 : PySem.W.keepIn K (.ref f_43) = true)
    (a_44 : PySem.W.nsIn K mainGlobals "stones_of" = some (some (.ref f_44)))
    (l_44 : K.lookup f_44 = some ⟨oc_44, od_44, .func (PySem.W.fnOf "stones_of" "stones_of" (defArgs s_stones_of) (defBody s_stones_of) (defScope s_stones_of) .none kV_44 dc_44 pm_44 an_44 cd_44 ct_44), sl_44⟩)
    (c_44 : PySem.W.codeIn K cd_44 "stones_of" = true)
    (k_44 : PySem.W.keepIn K (.ref f_44) = true)
    (a_45 : PySem.W.nsIn K mainGlobals "apart" = some (some (.ref f_45)))
    (l_45 : K.lookup f_45 = some ⟨oc_45, od_45, .func (PySem.W.fnOf "apart" "apart" (defArgs s_apart) (defBody s_apart) (defScope s_apart) .none kV_45 dc_45 pm_45 an_45 cd_45 ct_45), sl_45⟩)
    (c_45 : PySem.W.codeIn K cd_45 "apart" = true)
    (k_45 : PySem.W.keepIn K (.ref f_45) = true)
    (a_46 : PySem.W.nsIn K mainGlobals "joints_of" = some (some (.ref f_46)))
    (l_46 : K.lookup f_46 = some ⟨oc_46, od_46, .func (PySem.W.fnOf "joints_of" "joints_of" (defArgs s_joints_of) (defBody s_joints_of) (defScope s_joints_of) .none kV_46 dc_46 pm_46 an_46 cd_46 ct_46), sl_46⟩)
    (c_46 : PySem.W.codeIn K cd_46 "joints_of" = true)
    (k_46 : PySem.W.keepIn K (.ref f_46) = true)
    (a_47 : PySem.W.nsIn K mainGlobals "_law_refused" = some (some (.ref f_47)))
    (l_47 : K.lookup f_47 = some ⟨oc_47, od_47, .func (PySem.W.fnOf "_law_refused" "_law_refused" (defArgs s__law_refused) (defBody s__law_refused) (defScope s__law_refused) .none kV_47 dc_47 pm_47 an_47 (.ref cc_47) ct_47), sl_47⟩)
    (c_47 : PySem.W.codeIn K (.ref cc_47) "_law_refused" = true)
    (k_47 : PySem.W.keepIn K (.ref f_47) = true)
    (lu_47 : K.lookup cc_47 = some ⟨occ_47, odd_47, .fields vs_47, slc_47⟩)
    (lp_47 : (vs_47[11]? : Option Value) = some (.ref TP_47))
    (lt_47 : PySem.W.tabIn K "_law_refused" = some (cc_47, TP_47))
    (lk_47 : K.lookup TP_47 = none)
    (lh_47 : PySem.W.codeHdIn K cc_47 TP_47 = true)
    (lm_47 : TP_47 ∈ ts)
    (a_48 : PySem.W.nsIn K mainGlobals "law" = some (some (.ref f_48)))
    (l_48 : K.lookup f_48 = some ⟨oc_48, od_48, .func (PySem.W.fnOf "law" "law" (defArgs s_law) (defBody s_law) (defScope s_law) .none kV_48 dc_48 pm_48 an_48 cd_48 ct_48), sl_48⟩)
    (c_48 : PySem.W.codeIn K cd_48 "law" = true)
    (k_48 : PySem.W.keepIn K (.ref f_48) = true)
    (ln_41_47 : TP_41 ≠ TP_47)
    (z_ArithmeticError : PySem.W.nsIn K mainGlobals "ArithmeticError" = some none)
    (z_LookupError : PySem.W.nsIn K mainGlobals "LookupError" = some none)
    (z_RuntimeError : PySem.W.nsIn K mainGlobals "RuntimeError" = some none)
    (z_TypeError : PySem.W.nsIn K mainGlobals "TypeError" = some none)
    (z_ValueError : PySem.W.nsIn K mainGlobals "ValueError" = some none)
    (z_all : PySem.W.nsIn K mainGlobals "all" = some none)
    (z_bool : PySem.W.nsIn K mainGlobals "bool" = some none)
    (z_enumerate : PySem.W.nsIn K mainGlobals "enumerate" = some none)
    (z_int : PySem.W.nsIn K mainGlobals "int" = some none)
    (z_isinstance : PySem.W.nsIn K mainGlobals "isinstance" = some none)
    (z_len : PySem.W.nsIn K mainGlobals "len" = some none)
    (z_list : PySem.W.nsIn K mainGlobals "list" = some none)
    (z_max : PySem.W.nsIn K mainGlobals "max" = some none)
    (z_min : PySem.W.nsIn K mainGlobals "min" = some none)
    (z_range : PySem.W.nsIn K mainGlobals "range" = some none)
    (z_repr : PySem.W.nsIn K mainGlobals "repr" = some none)
    (z_str : PySem.W.nsIn K mainGlobals "str" = some none)
    (z_tuple : PySem.W.nsIn K mainGlobals "tuple" = some none)
    (z_zip : PySem.W.nsIn K mainGlobals "zip" = some none)
    (a_MOST_FAR : PySem.W.nsIn K mainGlobals "MOST_FAR" = some (some (.int 1000 t_MOST_FAR)))
    (a_MOST_JOINT : PySem.W.nsIn K mainGlobals "MOST_JOINT" = some (some (.int 9 t_MOST_JOINT)))
    (a_MOST_LEGS : PySem.W.nsIn K mainGlobals "MOST_LEGS" = some (some (.int 6 t_MOST_LEGS)))
    (a_MOST_LONG : PySem.W.nsIn K mainGlobals "MOST_LONG" = some (some (.int 60 t_MOST_LONG)))
    (a_MOST_ROWS : PySem.W.nsIn K mainGlobals "MOST_ROWS" = some (some (.int 6 t_MOST_ROWS)))
    (a_MOST_STONE : PySem.W.nsIn K mainGlobals "MOST_STONE" = some (some (.int 20 t_MOST_STONE)))
    (a_MOST_STONES : PySem.W.nsIn K mainGlobals "MOST_STONES" = some (some (.int 12 t_MOST_STONES)))
    (a_MOST_WIDTH : PySem.W.nsIn K mainGlobals "MOST_WIDTH" = some (some (.int 9 t_MOST_WIDTH)))
    (a_STEPS : PySem.W.nsIn K mainGlobals "STEPS" = some (some (.ref p_STEPS)))
    (l_STEPS : K.lookup p_STEPS = some ⟨.type "tuple", none, .seq #[(.ref p_STEPS_0), (.ref p_STEPS_1), (.ref p_STEPS_2), (.ref p_STEPS_3)] n_STEPS, sl_STEPS⟩)
    (l_STEPS_0 : K.lookup p_STEPS_0 = some ⟨.type "tuple", none, .seq #[(.int 1 t_STEPS_0_0), (.int 0 t_STEPS_0_1)] n_STEPS_0, sl_STEPS_0⟩)
    (l_STEPS_1 : K.lookup p_STEPS_1 = some ⟨.type "tuple", none, .seq #[(.int 0 t_STEPS_1_0), (.int 1 t_STEPS_1_1)] n_STEPS_1, sl_STEPS_1⟩)
    (l_STEPS_2 : K.lookup p_STEPS_2 = some ⟨.type "tuple", none, .seq #[(.int (-1) t_STEPS_2_0), (.int 0 t_STEPS_2_1)] n_STEPS_2, sl_STEPS_2⟩)
    (l_STEPS_3 : K.lookup p_STEPS_3 = some ⟨.type "tuple", none, .seq #[(.int 0 t_STEPS_3_0), (.int (-1) t_STEPS_3_1)] n_STEPS_3, sl_STEPS_3⟩)
    (a_WAYS : PySem.W.nsIn K mainGlobals "WAYS" = some (some (.ref p_WAYS)))
    (l_WAYS : K.lookup p_WAYS = some ⟨.type "tuple", none, .seq #[(.str "east" t_WAYS_0), (.str "north" t_WAYS_1), (.str "west" t_WAYS_2), (.str "south" t_WAYS_3)] n_WAYS, sl_WAYS⟩)
    (a_StoneError : PySem.W.nsIn K mainGlobals "StoneError" = some (some (.ref C_StoneError)))
    (b_StoneError : iniB K C_StoneError = true)
    (a_NoStrip : PySem.W.nsIn K mainGlobals "NoStrip" = some (some (.ref C_NoStrip)))
    (b_NoStrip : xcB K "StoneError" ysX fldX "NoStrip" C_NoStrip = true)
    (l_NoStrip : K.lookup C_NoStrip = some ⟨.type "type", xdd_NoStrip, .cls ⟨xnm_NoStrip, xbs_NoStrip, .ref C_NoStrip :: xbm_NoStrip, xN_NoStrip, xqn_NoStrip, true, xsn_NoStrip, xsub_NoStrip, xab_NoStrip, xcol_NoStrip, false⟩, #[xk0_NoStrip, xk1_NoStrip, xk2_NoStrip, xk3_NoStrip, some (.builtin "ValueError.__new__"), xk5_NoStrip]⟩)
    (x_NoStrip : PySem.HandSPX.refsVE xbm_NoStrip = true)
    (s_NoStrip : PySem.W.findIn K (.ref C_NoStrip) "__setattr__" = some (some (.builtin "object.__setattr__")))
    (u_NoStrip : PySem.W.subIn K (.ref C_NoStrip) (.type "BaseException") = some true)
    (y_NoStrip : PySem.W.typeIn K (.ref C_NoStrip) = some (.type "type"))
    (k_NoStrip : PySem.W.keepIn K (.ref C_NoStrip) = true)
    (fi_NoStrip : PySem.W.findIn K (.ref C_NoStrip) "__init__" = some (some (.ref F_NoStrip)))
    (fl_NoStrip : K.lookup F_NoStrip = some ⟨oc_NoStrip, od_NoStrip, .func (PySem.W.fnOf "__init__" "NoStrip.__init__" (defArgs (clsM (topS 23))) (defBody (clsM (topS 23))) (defScope (clsM (topS 23))) .none kV_NoStrip dc_NoStrip pm_NoStrip an_NoStrip cd_NoStrip ct_NoStrip), sl_NoStrip⟩)
    (ft_NoStrip : PySem.W.typeIn K (.ref F_NoStrip) = some (.type "function"))
    (fc_NoStrip : PySem.W.codeIn K cd_NoStrip "NoStrip.__init__" = true)
    (a_NoJoints : PySem.W.nsIn K mainGlobals "NoJoints" = some (some (.ref C_NoJoints)))
    (x_NoJoints : PySem.W.excIn K C_NoJoints bmV "ValueError.__new__" = true)
    (b_NoJoints : xcB K "StoneError" ysX fldX "NoJoints" C_NoJoints = true)
    (a_NoPlace : PySem.W.nsIn K mainGlobals "NoPlace" = some (some (.ref C_NoPlace)))
    (x_NoPlace : PySem.W.excIn K C_NoPlace bmV "ValueError.__new__" = true)
    (b_NoPlace : xcB K "StoneError" ysX fldX "NoPlace" C_NoPlace = true)
    (a_NoRow : PySem.W.nsIn K mainGlobals "NoRow" = some (some (.ref C_NoRow)))
    (x_NoRow : PySem.W.excIn K C_NoRow bmV "ValueError.__new__" = true)
    (b_NoRow : xcB K "StoneError" ysX fldX "NoRow" C_NoRow = true)
    (x_ownNoStrip : (PySem.W.exmOne K (.ref C_NoStrip) (.ref C_NoStrip) == some true) = true) :
    ∃ (FA : FnA) (fd : FuncData) (TT : Tbl) (cs : List (Addr × Addr)), (∀ p ∈ TT.T, ∃ c, (c, p.1) ∈ cs) ∧ (∀ p ∈ cs, p.2 ∈ ts ∧ K.lookup p.2 = none ∧ PySem.W.codeHdIn K p.1 p.2 = true) ∧ (∀ (s : Shared) (v : Value), BindsTo s fd ⟨[v], []⟩ [("_law_script", v)]) ∧ ∀ base : Heap, K.In base → base.Ns mainGlobals mg → SysM base → (∀ p ∈ cs, LamX.TabB base mg p.1 p.2) → @Fnk _ TT ⟨P, w, K, mg, base⟩ true 12 fa fd ["_law_script"] (@m_law FA) := by
  have e := hfa.symm.trans (PySem.W.mg_of X G a_48)
  cases e
  refine ⟨⟨fun z : Str => if z = ("area_of" : Str) then f_40 else if z = ("first_over" : Str) then f_39 else 0⟩, PySem.W.fnOf "law" "law" (defArgs s_law) (defBody s_law) (defScope s_law) .none kV_48 dc_48 pm_48 an_48 cd_48 ct_48, ⟨[(TP_41, "_law_rows_right.<locals>.<lambda>"), (TP_47, "_law_refused.<locals>.<lambda>")]⟩, [(cc_41, TP_41), (cc_47, TP_47)], ?_, ?_, fun s v => .of_eq rfl, fun base _ _ SMb TB => ?_⟩
  · intro p hp; simp only [List.mem_cons, List.not_mem_nil, or_false] at hp; rcases hp with rfl | rfl
    · exact ⟨cc_41, by simp⟩
    · exact ⟨cc_47, by simp⟩
  · intro p hp; simp only [List.mem_cons, List.not_mem_nil, or_false] at hp; rcases hp with rfl | rfl
    · exact ⟨lm_41, lk_41, lh_41⟩
    · exact ⟨lm_47, lk_47, lh_47⟩
  letI : Tbl := ⟨[(TP_41, "_law_rows_right.<locals>.<lambda>"), (TP_47, "_law_refused.<locals>.<lambda>")]⟩
  letI : FnA := ⟨fun z : Str => if z = ("area_of" : Str) then f_40 else if z = ("first_over" : Str) then f_39 else 0⟩
  have T : Hs ⟨P, w, K, mg, base⟩ := ⟨SMb,
    PySem.W.mg_none_of X G z_ArithmeticError,
    PySem.W.mg_none_of X G z_LookupError,
    PySem.W.mg_none_of X G z_RuntimeError,
    PySem.W.mg_none_of X G z_TypeError,
    PySem.W.mg_none_of X G z_ValueError,
    PySem.W.mg_none_of X G z_all,
    PySem.W.mg_none_of X G z_bool,
    PySem.W.mg_none_of X G z_enumerate,
    PySem.W.mg_none_of X G z_int,
    PySem.W.mg_none_of X G z_isinstance,
    PySem.W.mg_none_of X G z_len,
    PySem.W.mg_none_of X G z_list,
    PySem.W.mg_none_of X G z_max,
    PySem.W.mg_none_of X G z_min,
    PySem.W.mg_none_of X G z_range,
    PySem.W.mg_none_of X G z_repr,
    PySem.W.mg_none_of X G z_str,
    PySem.W.mg_none_of X G z_tuple,
    PySem.W.mg_none_of X G z_zip,
    gw_of X G a_MOST_FAR wr_int,
    gw_of X G a_MOST_JOINT wr_int,
    gw_of X G a_MOST_LEGS wr_int,
    gw_of X G a_MOST_LONG wr_int,
    gw_of X G a_MOST_ROWS wr_int,
    gw_of X G a_MOST_STONE wr_int,
    gw_of X G a_MOST_STONES wr_int,
    gw_of X G a_MOST_WIDTH wr_int,
    gw_of X G a_STEPS (wr_tup (us := [(.ref p_STEPS_0), (.ref p_STEPS_1), (.ref p_STEPS_2), (.ref p_STEPS_3)]) l_STEPS (Nat.le_of_ble_eq_true rfl) (wrs_cons (wr_tup (us := [(.int 1 t_STEPS_0_0), (.int 0 t_STEPS_0_1)]) l_STEPS_0 (Nat.le_of_ble_eq_true rfl) (wrs_cons wr_int (wrs_cons wr_int wrs_nil)) (List.Mem.tail _ (List.Mem.head _))) (wrs_cons (wr_tup (us := [(.int 0 t_STEPS_1_0), (.int 1 t_STEPS_1_1)]) l_STEPS_1 (Nat.le_of_ble_eq_true rfl) (wrs_cons wr_int (wrs_cons wr_int wrs_nil)) (List.Mem.tail _ (List.Mem.tail _ (List.Mem.head _)))) (wrs_cons (wr_tup (us := [(.int (-1) t_STEPS_2_0), (.int 0 t_STEPS_2_1)]) l_STEPS_2 (Nat.le_of_ble_eq_true rfl) (wrs_cons wr_int (wrs_cons wr_int wrs_nil)) (List.Mem.tail _ (List.Mem.tail _ (List.Mem.tail _ (List.Mem.head _))))) (wrs_cons (wr_tup (us := [(.int 0 t_STEPS_3_0), (.int (-1) t_STEPS_3_1)]) l_STEPS_3 (Nat.le_of_ble_eq_true rfl) (wrs_cons wr_int (wrs_cons wr_int wrs_nil)) (List.Mem.tail _ (List.Mem.tail _ (List.Mem.tail _ (List.Mem.tail _ (List.Mem.head _)))))) wrs_nil)))) (List.Mem.head _)),
    gw_of X G a_WAYS (wr_tup (us := [(.str "east" t_WAYS_0), (.str "north" t_WAYS_1), (.str "west" t_WAYS_2), (.str "south" t_WAYS_3)]) l_WAYS (Nat.le_of_ble_eq_true rfl) (wrs_cons wr_str (wrs_cons wr_str (wrs_cons wr_str (wrs_cons wr_str wrs_nil)))) (List.Mem.tail _ (List.Mem.tail _ (List.Mem.tail _ (List.Mem.tail _ (List.Mem.tail _ (List.Mem.head _))))))),
    gix_of (us := [.str "east" t_WAYS_0, .str "north" t_WAYS_1, .str "west" t_WAYS_2, .str "south" t_WAYS_3]) X G a_WAYS l_WAYS (Nat.le_of_ble_eq_true rfl) (.cons ⟨_, rfl⟩ (.cons ⟨_, rfl⟩ (.cons ⟨_, rfl⟩ (.cons ⟨_, rfl⟩ .nil)))),
    (show mg "area_of" = some (.ref (if ("area_of" : Str) = ("area_of" : Str) then f_40 else if ("area_of" : Str) = ("first_over" : Str) then f_39 else 0)) from by rw [if_pos rfl]; exact PySem.W.mg_of X G a_40),
    (show mg "first_over" = some (.ref (if ("first_over" : Str) = ("area_of" : Str) then f_40 else if ("first_over" : Str) = ("first_over" : Str) then f_39 else 0)) from by rw [if_neg (by decide), if_pos rfl]; exact PySem.W.mg_of X G a_39),
    ⟨_, PySem.W.mg_of X G a_StoneError⟩,
    ⟨_, PySem.W.mg_of X G a_NoStrip, ⟨⟨_, _, _, _, _, _, _, _, _, _, _, _, _, _, _, l_NoStrip, x_NoStrip⟩, s_NoStrip, u_NoStrip, y_NoStrip, k_NoStrip⟩, _, _, fi_NoStrip, ft_NoStrip, .all (fun us hl => match us, hl with | [_, _], _ => rfl), init_1 fl_NoStrip fc_NoStrip isc_NoStrip it_NoStrip (PySem.W.mg_of X G a_StoneError) (iniC_of b_StoneError) ⟨⟨_, _, _, _, _, _, _, _, _, _, _, _, _, _, _, l_NoStrip, x_NoStrip⟩, s_NoStrip, u_NoStrip, y_NoStrip, k_NoStrip⟩ (fun f hf => (xcA_of (M := ⟨P, w, K, mg, base⟩) (CSn := "StoneError") (ys := ysX) (fl := fldX) (xn := "NoStrip") X G a_NoStrip (fun z => absurd z (by decide)) b_NoStrip).nof f (by rw [nf_NoStrip]; exact hf)) rfl (fun env => ⟨_, rfl⟩)⟩,
    ⟨_, xcA_of X G a_NoJoints (fun _ => x_NoJoints) b_NoJoints⟩,
    ⟨_, xcA_of X G a_NoPlace (fun _ => x_NoPlace) b_NoPlace⟩,
    ⟨_, xcA_of X G a_NoRow (fun _ => x_NoRow) b_NoRow⟩,
    ⟨_, xcA_of X G a_NoStrip (fun z => absurd z (by decide)) b_NoStrip⟩,
    ⟨_, ⟨PySem.W.mg_of X G a_NoStrip, beq_iff_eq.mp x_ownNoStrip⟩⟩⟩
  have LT__law_rows_right : LamT ⟨P, w, K, mg, base⟩ "_law_rows_right" "_law_rows_right.<locals>.<lambda>" := lamT_of X G lt_41 (by decide) (by show _ ∈ ([(TP_41, "_law_rows_right.<locals>.<lambda>"), (TP_47, "_law_refused.<locals>.<lambda>")] : List (Addr × Str)); simp) (by
    intro p hp e; have hp : p ∈ ([(TP_41, "_law_rows_right.<locals>.<lambda>"), (TP_47, "_law_refused.<locals>.<lambda>")] : List (Addr × Str)) := hp; simp only [List.mem_cons, List.not_mem_nil, or_false] at hp; rcases hp with rfl | rfl
    · rfl
    · exact absurd e.symm ln_41_47
    ) (TB (cc_41, TP_41) (by simp))
  have LT__law_refused : LamT ⟨P, w, K, mg, base⟩ "_law_refused" "_law_refused.<locals>.<lambda>" := lamT_of X G lt_47 (by decide) (by show _ ∈ ([(TP_41, "_law_rows_right.<locals>.<lambda>"), (TP_47, "_law_refused.<locals>.<lambda>")] : List (Addr × Str)); simp) (by
    intro p hp e; have hp : p ∈ ([(TP_41, "_law_rows_right.<locals>.<lambda>"), (TP_47, "_law_refused.<locals>.<lambda>")] : List (Addr × Str)) := hp; simp only [List.mem_cons, List.not_mem_nil, or_false] at hp; rcases hp with rfl | rfl
    · exact absurd e ln_41_47
    · rfl
    ) (TB (cc_47, TP_47) (by simp))
  have h__law_pen_of := h__law_pen_of T  (top_mk (M := ⟨P, w, K, mg, base⟩) X G a_0 l_0 c_0 k_0 (fun us hl => match us, hl with | [_], _ => rfl))
  have h__law_step := h__law_step T  (top_mk (M := ⟨P, w, K, mg, base⟩) X G a_1 l_1 c_1 k_1 (fun us hl => match us, hl with | [_], _ => rfl))
  have h__law_side := h__law_side T h__law_step (top_mk (M := ⟨P, w, K, mg, base⟩) X G a_2 l_2 c_2 k_2 (fun us hl => match us, hl with | [_, _], _ => rfl))
  have h__law_strips := h__law_strips T h__law_side h__law_step (top_mk (M := ⟨P, w, K, mg, base⟩) X G a_3 l_3 c_3 k_3 (fun us hl => match us, hl with | [_, _], _ => rfl))
  have h__law_next := h__law_next T  (top_mk (M := ⟨P, w, K, mg, base⟩) X G a_4 l_4 c_4 k_4 (fun us hl => match us, hl with | [_], _ => rfl))
  have h__law_draw := h__law_draw T h__law_next (top_mk (M := ⟨P, w, K, mg, base⟩) X G a_5 l_5 c_5 k_5 (fun us hl => match us, hl with | [_, _], _ => rfl))
  have h__law_path := h__law_path T h__law_draw (top_mk (M := ⟨P, w, K, mg, base⟩) X G a_6 l_6 c_6 k_6 (fun us hl => match us, hl with | [_], _ => rfl))
  have h__law_stones := h__law_stones T h__law_draw (top_mk (M := ⟨P, w, K, mg, base⟩) X G a_7 l_7 c_7 k_7 (fun us hl => match us, hl with | [_, _], _ => rfl))
  have h__law_row := h__law_row T h__law_draw h__law_path h__law_stones h__law_strips (top_mk (M := ⟨P, w, K, mg, base⟩) X G a_8 l_8 c_8 k_8 (fun us hl => match us, hl with | [_], _ => rfl))
  have h__law_cell_at := h__law_cell_at T  (top_mk (M := ⟨P, w, K, mg, base⟩) X G a_9 l_9 c_9 k_9 (fun us hl => match us, hl with | [_, _], _ => rfl))
  have h__law_is := h__law_is T  (top_mk (M := ⟨P, w, K, mg, base⟩) X G a_10 l_10 c_10 k_10 (fun us hl => match us, hl with | [_, _, _], _ => rfl))
  have h__law_are_stones := h__law_are_stones T h__law_is (top_mk (M := ⟨P, w, K, mg, base⟩) X G a_11 l_11 c_11 k_11 (fun us hl => match us, hl with | [_, _], _ => rfl))
  have h__law_is_row := h__law_is_row T h__law_are_stones h__law_strips (top_mk (M := ⟨P, w, K, mg, base⟩) X G a_12 l_12 c_12 k_12 (fun us hl => match us, hl with | [_, _, _], _ => rfl))
  have h__law_flags := h__law_flags T  (top_mk (M := ⟨P, w, K, mg, base⟩) X G a_13 l_13 c_13 k_13 (fun us hl => match us, hl with | [_], _ => rfl))
  have S__law_word := h__law_word T h__law_flags (top_mk (M := ⟨P, w, K, mg, base⟩) X G a_14 l_14 c_14 k_14 (fun us hl => match us, hl with | [_], _ => rfl))
  have h_quarter := h_quarter T  (top_mk (M := ⟨P, w, K, mg, base⟩) X G a_15 l_15 c_15 k_15 (fun us hl => match us, hl with | [_, _], _ => rfl))
  have h_bend_sides := h_bend_sides T h_quarter (top_mk (M := ⟨P, w, K, mg, base⟩) X G a_16 l_16 c_16 k_16 (fun us hl => match us, hl with | [_], _ => rfl))
  have h_gone := h_gone T  (top_mk (M := ⟨P, w, K, mg, base⟩) X G a_17 l_17 c_17 k_17 (fun us hl => match us, hl with | [_, _, _, _], _ => rfl))
  have h_leg_points := h_leg_points T h_gone (top_mk (M := ⟨P, w, K, mg, base⟩) X G a_18 l_18 c_18 k_18 (fun us hl => match us, hl with | [_], _ => rfl))
  have h_strips_by := h_strips_by T h_bend_sides h_gone h_leg_points (top_mk (M := ⟨P, w, K, mg, base⟩) X G a_19 l_19 c_19 k_19 (fun us hl => match us, hl with | [_, _], _ => rfl))
  have h_is_whole := h_is_whole T  (top_mk (M := ⟨P, w, K, mg, base⟩) X G a_20 l_20 c_20 k_20 (fun us hl => match us, hl with | [_], _ => rfl))
  have h_is_from_to := h_is_from_to T h_is_whole (top_mk (M := ⟨P, w, K, mg, base⟩) X G a_21 l_21 c_21 k_21 (fun us hl => match us, hl with | [_, _, _], _ => rfl))
  have h_is_leg := h_is_leg T h_is_from_to (top_mk (M := ⟨P, w, K, mg, base⟩) X G a_22 l_22 c_22 k_22 (fun us hl => match us, hl with | [_], _ => rfl))
  have h_is_path := h_is_path T h_is_from_to h_is_leg h_quarter (top_mk (M := ⟨P, w, K, mg, base⟩) X G a_23 l_23 c_23 k_23 (fun us hl => match us, hl with | [_], _ => rfl))
  have h_strips_or_none := h_strips_or_none T h_is_from_to h_is_path h_strips_by (top_mk (M := ⟨P, w, K, mg, base⟩) X G a_24 l_24 c_24 k_24 (fun us hl => match us, hl with | [_], _ => rfl))
  have h_are_stones := h_are_stones T h_is_from_to (top_mk (M := ⟨P, w, K, mg, base⟩) X G a_25 l_25 c_25 k_25 (fun us hl => match us, hl with | [_, _], _ => rfl))
  have h_is_row := h_is_row T h_are_stones h_strips_or_none (top_mk (M := ⟨P, w, K, mg, base⟩) X G a_26 l_26 c_26 k_26 (fun us hl => match us, hl with | [_], _ => rfl))
  have h_need_rows := h_need_rows T h_is_row (top_mk (M := ⟨P, w, K, mg, base⟩) X G a_27 l_27 c_27 k_27 (fun us hl => match us, hl with | [_], _ => rfl))
  have h_need_square := h_need_square T h_is_whole (top_mk (M := ⟨P, w, K, mg, base⟩) X G a_28 l_28 c_28 k_28 (fun us hl => match us, hl with | [_, _], _ => rfl))
  have h_at_square := h_at_square T h_need_rows h_need_square (top_mk (M := ⟨P, w, K, mg, base⟩) X G a_29 l_29 c_29 k_29 (fun us hl => match us, hl with | [_, _, _], _ => rfl))
  have h_need_row := h_need_row T h_is_row (top_mk (M := ⟨P, w, K, mg, base⟩) X G a_30 l_30 c_30 k_30 (fun us hl => match us, hl with | [_], _ => rfl))
  have h_are_joints := h_are_joints T h_is_from_to (top_mk (M := ⟨P, w, K, mg, base⟩) X G a_31 l_31 c_31 k_31 (fun us hl => match us, hl with | [_], _ => rfl))
  have h_need_joints := h_need_joints T h_are_joints (top_mk (M := ⟨P, w, K, mg, base⟩) X G a_32 l_32 c_32 k_32 (fun us hl => match us, hl with | [_], _ => rfl))
  have h_in_joints := h_in_joints T h_need_joints h_need_row (top_mk (M := ⟨P, w, K, mg, base⟩) X G a_33 l_33 c_33 k_33 (fun us hl => match us, hl with | [_, _], _ => rfl))
  have h_rectangle := h_rectangle T  (top_mk (M := ⟨P, w, K, mg, base⟩) X G a_34 l_34 c_34 k_34 (fun us hl => match us, hl with | [_, _, _, _], _ => rfl))
  have h_rectangles := h_rectangles T h_rectangle h_strips_by (top_mk (M := ⟨P, w, K, mg, base⟩) X G a_35 l_35 c_35 k_35 (fun us hl => match us, hl with | [_], _ => rfl))
  have h_all_stones := h_all_stones T h_rectangles (top_mk (M := ⟨P, w, K, mg, base⟩) X G a_36 l_36 c_36 k_36 (fun us hl => match us, hl with | [_], _ => rfl))
  have h_cover := h_cover T  (top_mk (M := ⟨P, w, K, mg, base⟩) X G a_37 l_37 c_37 k_37 (fun us hl => match us, hl with | [_, _], _ => rfl))
  have h_over_by := h_over_by T h_all_stones h_cover (top_mk (M := ⟨P, w, K, mg, base⟩) X G a_38 l_38 c_38 k_38 (fun us hl => match us, hl with | [_], _ => rfl))
  have h_first_over := h_first_over T h_need_rows h_over_by (top_mk (M := ⟨P, w, K, mg, base⟩) X G a_39 l_39 c_39 k_39 (fun us hl => match us, hl with | [_], _ => rfl))
  have h_area_of := h_area_of T h_need_rows (top_mk (M := ⟨P, w, K, mg, base⟩) X G a_40 l_40 c_40 k_40 (fun us hl => match us, hl with | [_], _ => rfl))
  have h__law_rows_right := h__law_rows_right T h_area_of h_at_square h_first_over h_in_joints S__law_word LT__law_rows_right (top_mk (M := ⟨P, w, K, mg, base⟩) X G a_41 l_41 c_41 k_41 (fun us hl => match us, hl with | [_], _ => rfl))
  have h__law_bent_stones := h__law_bent_stones T  (top_mk (M := ⟨P, w, K, mg, base⟩) X G a_42 l_42 c_42 k_42 (fun us hl => match us, hl with | [_, _], _ => rfl))
  have h__law_bent_laid := h__law_bent_laid T h__law_bent_stones h__law_draw (top_mk (M := ⟨P, w, K, mg, base⟩) X G a_43 l_43 c_43 k_43 (fun us hl => match us, hl with | [_, _], _ => rfl))
  have h_stones_of := h_stones_of T h_need_row (top_mk (M := ⟨P, w, K, mg, base⟩) X G a_44 l_44 c_44 k_44 (fun us hl => match us, hl with | [_], _ => rfl))
  have h_apart := h_apart T h_need_row (top_mk (M := ⟨P, w, K, mg, base⟩) X G a_45 l_45 c_45 k_45 (fun us hl => match us, hl with | [_, _], _ => rfl))
  have h_joints_of := h_joints_of T h_need_row (top_mk (M := ⟨P, w, K, mg, base⟩) X G a_46 l_46 c_46 k_46 (fun us hl => match us, hl with | [_], _ => rfl))
  have h__law_refused := h__law_refused T h_apart h_area_of h_at_square h_first_over h_in_joints h_joints_of h_stones_of S__law_word LT__law_refused (top_mk (M := ⟨P, w, K, mg, base⟩) X G a_47 l_47 c_47 k_47 (fun us hl => match us, hl with | [_, _], _ => rfl))
  exact fnk_of l_48 c_48 sc_law t_law rfl rfl (fun X c => b_law T h__law_are_stones h__law_bent_laid h__law_cell_at h__law_is_row h__law_pen_of h__law_refused h__law_row h__law_rows_right h_is_row c)
end PV
open PySem PySem.W PyProof.Rows
set_option maxRecDepth 100000 in
set_option maxHeartbeats 0 in
theorem PySem.Challenge.cw_bentstones_k41_rows_known_holds : PySem.Challenge.rw_bentstones_k41_rows_known.Holds := by
  w_on; o_law; k_head; (case hw => w_witness2)
  k_fill
  letI : PV.Tbl := ⟨[]⟩
  refine PV.walk_runF (α := PV.FnA) (g := true) (l := PySem.Challenge.rw_bentstones_k41_rows_known) (n := 63) (k := 12) (x := "_law_script") (mf := fun FA => @PV.m_law FA) (by rfl) rfl (by decide) rfl ⟨rfl, by decide, by decide⟩ (fun w h Y => PySem.W.km_in_of Y) (fun w h Y => PySem.W.km_tabs_of Y) ?F (fun FA => by letI : PV.FnA := FA; exact PV.law_ok)
  case F =>
    intro w mg fa h KX G hmg
    refine' PV.all_mk KX G hmg ?a_0 ?l_0 ?c_0 ?k_0 ?a_1 ?l_1 ?c_1 ?k_1 ?a_2 ?l_2 ?c_2 ?k_2 ?a_3 ?l_3 ?c_3 ?k_3 ?a_4 ?l_4 ?c_4 ?k_4 ?a_5 ?l_5 ?c_5 ?k_5 ?a_6 ?l_6 ?c_6 ?k_6 ?a_7 ?l_7 ?c_7 ?k_7 ?a_8 ?l_8 ?c_8 ?k_8 ?a_9 ?l_9 ?c_9 ?k_9 ?a_10 ?l_10 ?c_10 ?k_10 ?a_11 ?l_11 ?c_11 ?k_11 ?a_12 ?l_12 ?c_12 ?k_12 ?a_13 ?l_13 ?c_13 ?k_13 ?a_14 ?l_14 ?c_14 ?k_14 ?a_15 ?l_15 ?c_15 ?k_15 ?a_16 ?l_16 ?c_16 ?k_16 ?a_17 ?l_17 ?c_17 ?k_17 ?a_18 ?l_18 ?c_18 ?k_18 ?a_19 ?l_19 ?c_19 ?k_19 ?a_20 ?l_20 ?c_20 ?k_20 ?a_21 ?l_21 ?c_21 ?k_21 ?a_22 ?l_22 ?c_22 ?k_22 ?a_23 ?l_23 ?c_23 ?k_23 ?a_24 ?l_24 ?c_24 ?k_24 ?a_25 ?l_25 ?c_25 ?k_25 ?a_26 ?l_26 ?c_26 ?k_26 ?a_27 ?l_27 ?c_27 ?k_27 ?a_28 ?l_28 ?c_28 ?k_28 ?a_29 ?l_29 ?c_29 ?k_29 ?a_30 ?l_30 ?c_30 ?k_30 ?a_31 ?l_31 ?c_31 ?k_31 ?a_32 ?l_32 ?c_32 ?k_32 ?a_33 ?l_33 ?c_33 ?k_33 ?a_34 ?l_34 ?c_34 ?k_34 ?a_35 ?l_35 ?c_35 ?k_35 ?a_36 ?l_36 ?c_36 ?k_36 ?a_37 ?l_37 ?c_37 ?k_37 ?a_38 ?l_38 ?c_38 ?k_38 ?a_39 ?l_39 ?c_39 ?k_39 ?a_40 ?l_40 ?c_40 ?k_40 ?a_41 ?l_41 ?c_41 ?k_41 ?lu_41 ?lp_41 ?lt_41 ?lk_41 ?lh_41 ?lm_41 ?a_42 ?l_42 ?c_42 ?k_42 ?a_43 ?l_43 ?c_43 ?k_43 ?a_44 ?l_44 ?c_44 ?k_44 ?a_45 ?l_45 ?c_45 ?k_45 ?a_46 ?l_46 ?c_46 ?k_46 ?a_47 ?l_47 ?c_47 ?k_47 ?lu_47 ?lp_47 ?lt_47 ?lk_47 ?lh_47 ?lm_47 ?a_48 ?l_48 ?c_48 ?k_48 ?ln_41_47 ?z_ArithmeticError ?z_LookupError ?z_RuntimeError ?z_TypeError ?z_ValueError ?z_all ?z_bool ?z_enumerate ?z_int ?z_isinstance ?z_len ?z_list ?z_max ?z_min ?z_range ?z_repr ?z_str ?z_tuple ?z_zip ?a_MOST_FAR ?a_MOST_JOINT ?a_MOST_LEGS ?a_MOST_LONG ?a_MOST_ROWS ?a_MOST_STONE ?a_MOST_STONES ?a_MOST_WIDTH ?a_STEPS ?l_STEPS ?l_STEPS_0 ?l_STEPS_1 ?l_STEPS_2 ?l_STEPS_3 ?a_WAYS ?l_WAYS ?a_StoneError ?b_StoneError ?a_NoStrip ?b_NoStrip ?l_NoStrip ?x_NoStrip ?s_NoStrip ?u_NoStrip ?y_NoStrip ?k_NoStrip ?fi_NoStrip ?fl_NoStrip ?ft_NoStrip ?fc_NoStrip ?a_NoJoints ?x_NoJoints ?b_NoJoints ?a_NoPlace ?x_NoPlace ?b_NoPlace ?a_NoRow ?x_NoRow ?b_NoRow ?x_ownNoStrip
    (case a_0 => k_is); (case l_0 => k_is); (case c_0 => k_is); (case k_0 => k_is); (case a_1 => k_is); (case l_1 => k_is); (case c_1 => k_is); (case k_1 => k_is); (case a_2 => k_is); (case l_2 => k_is); (case c_2 => k_is); (case k_2 => k_is); (case a_3 => k_is); (case l_3 => k_is); (case c_3 => k_is); (case k_3 => k_is); (case a_4 => k_is); (case l_4 => k_is); (case c_4 => k_is); (case k_4 => k_is); (case a_5 => k_is); (case l_5 => k_is); (case c_5 => k_is); (case k_5 => k_is); (case a_6 => k_is); (case l_6 => k_is); (case c_6 => k_is); (case k_6 => k_is); (case a_7 => k_is); (case l_7 => k_is); (case c_7 => k_is); (case k_7 => k_is); (case a_8 => k_is); (case l_8 => k_is); (case c_8 => k_is); (case k_8 => k_is); (case a_9 => k_is); (case l_9 => k_is); (case c_9 => k_is); (case k_9 => k_is); (case a_10 => k_is); (case l_10 => k_is); (case c_10 => k_is); (case k_10 => k_is); (case a_11 => k_is); (case l_11 => k_is); (case c_11 => k_is); (case k_11 => k_is); (case a_12 => k_is); (case l_12 => k_is); (case c_12 => k_is); (case k_12 => k_is); (case a_13 => k_is); (case l_13 => k_is); (case c_13 => k_is); (case k_13 => k_is); (case a_14 => k_is); (case l_14 => k_is); (case c_14 => k_is); (case k_14 => k_is); (case a_15 => k_is); (case l_15 => k_is); (case c_15 => k_is); (case k_15 => k_is); (case a_16 => k_is); (case l_16 => k_is); (case c_16 => k_is); (case k_16 => k_is); (case a_17 => k_is); (case l_17 => k_is); (case c_17 => k_is); (case k_17 => k_is); (case a_18 => k_is); (case l_18 => k_is); (case c_18 => k_is); (case k_18 => k_is); (case a_19 => k_is); (case l_19 => k_is); (case c_19 => k_is); (case k_19 => k_is); (case a_20 => k_is); (case l_20 => k_is); (case c_20 => k_is); (case k_20 => k_is); (case a_21 => k_is); (case l_21 => k_is); (case c_21 => k_is); (case k_21 => k_is); (case a_22 => k_is); (case l_22 => k_is); (case c_22 => k_is); (case k_22 => k_is); (case a_23 => k_is); (case l_23 => k_is); (case c_23 => k_is); (case k_23 => k_is); (case a_24 => k_is); (case l_24 => k_is); (case c_24 => k_is); (case k_24 => k_is); (case a_25 => k_is); (case l_25 => k_is); (case c_25 => k_is); (case k_25 => k_is); (case a_26 => k_is); (case l_26 => k_is); (case c_26 => k_is); (case k_26 => k_is); (case a_27 => k_is); (case l_27 => k_is); (case c_27 => k_is); (case k_27 => k_is); (case a_28 => k_is); (case l_28 => k_is); (case c_28 => k_is); (case k_28 => k_is); (case a_29 => k_is); (case l_29 => k_is); (case c_29 => k_is); (case k_29 => k_is); (case a_30 => k_is); (case l_30 => k_is); (case c_30 => k_is); (case k_30 => k_is); (case a_31 => k_is); (case l_31 => k_is); (case c_31 => k_is); (case k_31 => k_is); (case a_32 => k_is); (case l_32 => k_is); (case c_32 => k_is); (case k_32 => k_is); (case a_33 => k_is); (case l_33 => k_is); (case c_33 => k_is); (case k_33 => k_is); (case a_34 => k_is); (case l_34 => k_is); (case c_34 => k_is); (case k_34 => k_is); (case a_35 => k_is); (case l_35 => k_is); (case c_35 => k_is); (case k_35 => k_is); (case a_36 => k_is); (case l_36 => k_is); (case c_36 => k_is); (case k_36 => k_is); (case a_37 => k_is); (case l_37 => k_is); (case c_37 => k_is); (case k_37 => k_is); (case a_38 => k_is); (case l_38 => k_is); (case c_38 => k_is); (case k_38 => k_is); (case a_39 => k_is); (case l_39 => k_is); (case c_39 => k_is); (case k_39 => k_is); (case a_40 => k_is); (case l_40 => k_is); (case c_40 => k_is); (case k_40 => k_is); (case a_41 => k_is); (case l_41 => k_is); (case c_41 => k_is); (case k_41 => k_is); (case lu_41 => k_is); (case lp_41 => exact rfl); (case lt_41 => kernel_rfl); (case lk_41 => kernel_rfl); (case lh_41 => kernel_rfl); (case lm_41 => k_mem); (case a_42 => k_is); (case l_42 => k_is); (case c_42 => k_is); (case k_42 => k_is); (case a_43 => k_is); (case l_43 => k_is); (case c_43 => k_is); (case k_43 => k_is); (case a_44 => k_is); (case l_44 => k_is); (case c_44 => k_is); (case k_44 => k_is); (case a_45 => k_is); (case l_45 => k_is); (case c_45 => k_is); (case k_45 => k_is); (case a_46 => k_is); (case l_46 => k_is); (case c_46 => k_is); (case k_46 => k_is); (case a_47 => k_is); (case l_47 => k_is); (case c_47 => k_is); (case k_47 => k_is); (case lu_47 => k_is); (case lp_47 => exact rfl); (case lt_47 => kernel_rfl); (case lk_47 => kernel_rfl); (case lh_47 => kernel_rfl); (case lm_47 => k_mem); (case a_48 => k_is); (case l_48 => k_is); (case c_48 => k_is); (case k_48 => k_is); (case ln_41_47 => decide); (case z_ArithmeticError => k_is); (case z_LookupError => k_is); (case z_RuntimeError => k_is); (case z_TypeError => k_is); (case z_ValueError => k_is); (case z_all => k_is); (case z_bool => k_is); (case z_enumerate => k_is); (case z_int => k_is); (case z_isinstance => k_is); (case z_len => k_is); (case z_list => k_is); (case z_max => k_is); (case z_min => k_is); (case z_range => k_is); (case z_repr => k_is); (case z_str => k_is); (case z_tuple => k_is); (case z_zip => k_is); (case a_MOST_FAR => k_is); (case a_MOST_JOINT => k_is); (case a_MOST_LEGS => k_is); (case a_MOST_LONG => k_is); (case a_MOST_ROWS => k_is); (case a_MOST_STONE => k_is); (case a_MOST_STONES => k_is); (case a_MOST_WIDTH => k_is); (case a_STEPS => k_is); (case l_STEPS => k_is); (case l_STEPS_0 => k_is); (case l_STEPS_1 => k_is); (case l_STEPS_2 => k_is); (case l_STEPS_3 => k_is); (case a_WAYS => k_is); (case l_WAYS => k_is); (case a_StoneError => k_is); (case b_StoneError => kernel_rfl); (case a_NoStrip => k_is); (case b_NoStrip => kernel_rfl); (case l_NoStrip => k_is); (case x_NoStrip => kernel_rfl); (case s_NoStrip => k_is); (case u_NoStrip => k_is); (case y_NoStrip => k_is); (case k_NoStrip => k_is); (case fi_NoStrip => k_is); (case fl_NoStrip => k_is); (case ft_NoStrip => k_is); (case fc_NoStrip => k_is); (case a_NoJoints => k_is); (case x_NoJoints => kernel_rfl); (case b_NoJoints => kernel_rfl); (case a_NoPlace => k_is); (case x_NoPlace => kernel_rfl); (case b_NoPlace => kernel_rfl); (case a_NoRow => k_is); (case x_NoRow => kernel_rfl); (case b_NoRow => kernel_rfl); (case x_ownNoStrip => kernel_rfl)
