import PyProof.Rows.All
import Wide.All
import OpenK.AllK
import Wide.FinOn
import HandS.ForMost
import HandS.Exc
import HandS.TryOnly
import HandS.TryMany
import HandS.Flow
import HandS.Defaults
import HandS.Codes
import HandS.Lambda
import KE.KDictKeyed
import KE.KeyNested
import HandS.HeadHook1
import HandS.TupAny
import HandS.TupMul
import HandS.Deep
import HandS.Wide
import HandS.Style
import HandS.StrMore
import HandS.Conv
import HandS.IsInst
import HandS.NoneIn
import HandS.CallSlots
import HandS.AnyAll
import HandS.DictComp
import HandS.Dict
import KE.SortData
import HandS.Iter
import HandS.Text
import HandS.ExcOwn
import PyProof.ExcBaseAll.ValueError
import HandS.EndTab
import HandS.HeadWalk
import HandS.HeadHook4
import PyProof.ReprRoads
import PyProof.CallFns
import HandS.CallLocal
import HandS.Replace
import KE.KStateDown
import HandS.Base
import HandS.Call
import HandS.Ends
import HandS.More
import HandS.Words
import HandS.WordsExc
import HandS.Head0
import HandS.Head1
import HandS.Head2
import HandS.HeadEnd
import HandS.HeadHook2
import HandS.HeadHook3
import PySem.Challenge.RW_tearwords_k44_whole_kinds_compared
set_option Elab.async false
set_option linter.all false
set_option maxRecDepth 100000
set_option maxHeartbeats 0
/-! A layer of values as plain data over the hand layer. -/
namespace Tw
open PySem PySem.Spec PyProof.Rows L2

/-- a text of these signs -/
abbrev tx (x : List Nat) : Str := ⟨x.toArray⟩
/-- a value as data: tuples by structure, what may change by its address; scr: the law's script; fn: a def of the program -/
inductive D where
  | non | bl (b : Bool) | int (i : Int) | str (x : List Nat) | ty (n : String) | ref (a : Addr) | tup (ds : List D) | scr (ns : List Int) | fn (n : Str)

/-- what stands at an address -/
inductive DO where
  | lst (ds : List D)
  | dct (kvs : List (Sum Int (List Nat) × D))
  | dth (kvs : List (List D × D))
  | ins (C : Addr) (fs : List (Str × D))
abbrev DHp := Addr → Option DO
abbrev DSt := List (Option D)
def put (h : DHp) (a : Addr) (o : DO) : DHp := fun b => if b = a then some o else h b
theorem put_same {h : DHp} {a : Addr} {o : DO} : put h a o a = some o := by unfold put; rw [if_pos rfl]
theorem put_ne {h : DHp} {a b : Addr} {o : DO} (n : b ≠ a) : put h a o b = h b := by unfold put; rw [if_neg n]
theorem put_put {h : DHp} {a : Addr} {o u : DO} : put (put h a o) a u = put h a u := by
  funext b; unfold put; split <;> rfl

section
variable (K : PySem.W.Frag) (H : Hp)
/-- a tuple: tracked, or the module's own -/
def Tp (a : Addr) (xs : List V) : Prop := H a = some (.tup xs) ∨
  ∃ (o : Obj) (its : Array Value) (n : Nat), K.lookup a = some o ∧ o.cls = .type "tuple" ∧ o.data = .seq its n ∧ its.size ≤ sizeLine ∧ Vals xs its.toList
mutual
def Rep : D → V → Prop
  | .non, v => v = .non
  | .bl b, v => v = .bl b
  | .int i, v => v = .int i
  | .str x, v => v = .str (tx x)
  | .ty n, v => v = .ty n
  | .ref a, v => v = .ref a
  | .tup ds, v => ∃ a xs, v = .ref a ∧ Tp K H a xs ∧ Reps ds xs
  | .scr ns, v => ∃ a, v = .ref a ∧ ((∃ o, H a = some (.frz o (.lst (ns.map V.int)))) ∨
      ∃ (o : Obj) (its : Array Value) (n : Nat), K.lookup a = some o ∧ o.cls = .type "list" ∧ o.dict = none ∧ o.data = .seq its n ∧ its.size ≤ sizeLine ∧ Vals (ns.map V.int) its.toList)
  | .fn n, v => v = .ref (He.fAd K (n, none))
def Reps : List D → List V → Prop
  | [], xs => xs = []
  | d :: ds, xs => ∃ x r, xs = x :: r ∧ Rep d x ∧ Reps ds r
end
end

theorem Tp.sqt {K : PySem.W.Frag} {H : Hp} {a : Addr} {xs : List V} (t : Tp K H a xs) : SqT K H a xs := by
  rcases t with t | t
  · exact .inl (.inl t)
  · exact .inr t

/-- a dict with keys that are tuples: its entries -/
def rawD (a : Addr) (es : Array DictEntry) : HO := .ext fun h => ∃ o ep, h.get? a = some o ∧ o.ExactDict ∧ o.data = .dict es ep
mutual
/-- data as a dict's key -/
def keyD : D → Option NestedKey
  | .non => some .none
  | .bl b => some (.num (if b = true then 1 else 0))
  | .int i => some (.num i)
  | .str x => some (.text (tx x))
  | .tup ds => (keyDs ds).map .tup
  | .ty _ => none
  | .ref _ => none
  | .scr _ => none
  | .fn _ => none
def keyDs : List D → Option (List NestedKey)
  | [] => some []
  | d :: ds => match keyD d, keyDs ds with
    | some k, some ks => some (k :: ks)
    | _, _ => none
end
def ky : Sum Int (List Nat) → Key
  | .inl i => .inl i
  | .inr x => .inr (tx x)
/-- the program's exceptions -/
inductive Ex where
  | tear | machine | rule | word | stretch | reading | side | count | hint | check | kind | things | desk | deed | undo | twice | notThere | tooGreat | rivals
  deriving DecidableEq
/-- the code objects' tables; where the exceptions' classes stand -/
structure Tb where
  tabs : List (Addr × Str)
  ec : Ex → Addr
/-- the context: the written part, the world, the tables of code objects -/
structure Cn where
  K : PySem.W.Frag
  w : World
  T : Tb

section
variable (c : Cn) (H : Hp)
def KReps : List (Sum Int (List Nat) × D) → List (Key × V) → Prop
  | [], xs => xs = []
  | d :: ds, xs => ∃ x r, xs = (ky d.1, x) :: r ∧ Rep c.K H d.2 x ∧ KReps ds r
def FReps : List (Str × D) → List (Str × V) → Prop
  | [], xs => xs = []
  | d :: ds, xs => ∃ x r, xs = (d.1, x) :: r ∧ Rep c.K H d.2 x ∧ FReps ds r
def EReps : List (List D × D) → List DictEntry → Prop
  | [], es => es = []
  | p :: ps, es => ∃ e r, es = e :: r ∧ (∃ k b v, keyD (.tup p.1) = some k ∧ k.depth ≤ 8 ∧ e.hash = k.hash c.w ∧ e.key = .ref b ∧ Rep c.K H (.tup p.1) (.ref b) ∧ RelV v e.val ∧ Rep c.K H p.2 v) ∧ EReps ps r
/-- what D says of an address is so -/
def ObR (a : Addr) : DO → Prop
  | .lst ds => ∃ xs, H a = some (.lst xs) ∧ Reps c.K H ds xs
  | .dct kvs => ∃ ks, H a = some (.dK ks) ∧ KReps c H kvs ks
  | .dth kvs => ∃ es, H a = some (rawD a es) ∧ EReps c H kvs es.toList ∧ (kvs.map fun p => keyD (.tup p.1)).Nodup ∧ (a == sysModules) = false
  | .ins C fs => ∃ dx gs, H a = some (.ins C dx gs) ∧ FReps c H fs gs
structure RelH (h : DHp) : Prop where
  at_ : ∀ a o, h a = some o → ObR c H a o
  tabs : LamX.Tabs c.T.tabs H
def RelS (δ : DSt) (σ : L2.St) : Prop := δ.length = σ.length ∧ ∀ (i : Nat) d, δ[i]? = some (some d) → ∃ v, σ[i]? = some (some v) ∧ Rep c.K H d v
end

/-- what D does not see stays, and stays unseen (the tables of code objects apart) -/
def Ext (h h' : DHp) (H H' : Hp) : Prop := ∀ a o, h a = none → H a = some o → (∀ ps, o ≠ .tbl ps) → H' a = some o ∧ h' a = none
theorem Ext.refl {h : DHp} {H : Hp} : Ext h h H H := fun _ o n e _ => ⟨e, n⟩
theorem Ext.trans {h h1 h2 : DHp} {H H1 H2 : Hp} (a : Ext h h1 H H1) (b : Ext h1 h2 H1 H2) : Ext h h2 H H2 := fun c o n e nt =>
  let ⟨e1, n1⟩ := a c o n e nt
  b c o n1 e1 nt
theorem Ext.same {h h' : DHp} {H H' : Hp} (x : Ext h h' H H') {a : Addr} {o : HO} (n : h a = none) (e : H a = some o) (nt : ∀ ps, o ≠ .tbl ps) : H' a = some o := (x a o n e nt).1

section
variable {c : Cn} {H H' : Hp} {h h' : DHp}
/-- a kind that an address that D sees may have -/
def Seen : HO → Prop
  | .lst _ => True
  | .dK _ => True
  | .ins _ _ _ => True
  | .ext _ => True
  | _ => False
theorem ObR.some {a : Addr} {o : DO} (r : ObR c H a o) : ∃ u, H a = some u ∧ Seen u := by
  cases o with
  | lst ds => obtain ⟨xs, e, _⟩ := r; exact ⟨_, e, trivial⟩
  | dct kvs => obtain ⟨xs, e, _⟩ := r; exact ⟨_, e, trivial⟩
  | ins C fs => obtain ⟨dx, xs, e, _⟩ := r; exact ⟨_, e, trivial⟩
  | dth kvs => obtain ⟨es, e, _⟩ := r; exact ⟨_, e, trivial⟩
theorem RelH.fresh (r : RelH c H h) {a : Addr} (n : H a = none) : h a = none := by
  cases e : h a with
  | none => rfl
  | some o =>
    obtain ⟨u, q, _⟩ := (r.at_ a o e).some
    rw [n] at q
    cases q
theorem RelH.unseen (r : RelH c H h) {a : Addr} {u : HO} (n : H a = some u) (t : ¬ Seen u) : h a = none := by
  cases e : h a with
  | none => rfl
  | some o =>
    obtain ⟨w, q, z⟩ := (r.at_ a o e).some
    rw [n] at q
    cases q
    exact (t z).elim
/-- tuples, the script stay -/
def Keeps (H H' : Hp) : Prop := (∀ a xs, H a = some (.tup xs) → H' a = some (.tup xs)) ∧ ∀ a ob u, H a = some (.frz ob u) → H' a = some (.frz ob u)
theorem Ext.keeps (x : Ext h h' H H') (r : RelH c H h) : Keeps H H' :=
  ⟨fun a xs e => x.same (r.unseen e (fun z => z)) e (fun ps q => by cases q), fun a ob u e => x.same (r.unseen e (fun z => z)) e (fun ps q => by cases q)⟩
theorem Tp.keep {K : PySem.W.Frag} {a : Addr} {xs : List V} (k : Keeps H H') (t : Tp K H a xs) : Tp K H' a xs := by
  rcases t with t | t
  · exact .inl (k.1 a xs t)
  · exact .inr t
mutual
theorem Rep.keep {K : PySem.W.Frag} (k : Keeps H H') : ∀ (d : D) (v : V), Rep K H d v → Rep K H' d v
  | .non, _, r => by simp only [Rep] at r ⊢; exact r
  | .bl _, _, r => by simp only [Rep] at r ⊢; exact r
  | .int _, _, r => by simp only [Rep] at r ⊢; exact r
  | .str _, _, r => by simp only [Rep] at r ⊢; exact r
  | .ty _, _, r => by simp only [Rep] at r ⊢; exact r
  | .ref _, _, r => by simp only [Rep] at r ⊢; exact r
  | .fn _, _, r => by simp only [Rep] at r ⊢; exact r
  | .tup ds, _, r => by
    simp only [Rep] at r ⊢
    obtain ⟨a, xs, e, t, q⟩ := r
    exact ⟨a, xs, e, t.keep k, Reps.keep k ds xs q⟩
  | .scr ns, _, r => by
    simp only [Rep] at r ⊢
    obtain ⟨a, e, ⟨o, q⟩ | q⟩ := r
    · exact ⟨a, e, .inl ⟨o, k.2 _ _ _ q⟩⟩
    · exact ⟨a, e, .inr q⟩
theorem Reps.keep {K : PySem.W.Frag} (k : Keeps H H') : ∀ (ds : List D) (xs : List V), Reps K H ds xs → Reps K H' ds xs
  | [], _, r => by simp only [Reps] at r ⊢; exact r
  | d :: ds, _, r => by
    simp only [Reps] at r ⊢
    obtain ⟨x, q, e, r1, r2⟩ := r
    exact ⟨x, q, e, Rep.keep k d x r1, Reps.keep k ds q r2⟩
end
theorem KReps.keep (k : Keeps H H') : ∀ (ds : List (Sum Int (List Nat) × D)) (xs : List (Key × V)), KReps c H ds xs → KReps c H' ds xs
  | [], _, r => r
  | d :: ds, _, ⟨x, q, e, r1, r2⟩ => ⟨x, q, e, Rep.keep k _ _ r1, KReps.keep k ds q r2⟩
theorem FReps.keep (k : Keeps H H') : ∀ (ds : List (Str × D)) (xs : List (Str × V)), FReps c H ds xs → FReps c H' ds xs
  | [], _, r => r
  | d :: ds, _, ⟨x, q, e, r1, r2⟩ => ⟨x, q, e, Rep.keep k _ _ r1, FReps.keep k ds q r2⟩
theorem EReps.keep (k : Keeps H H') : ∀ (ps : List (List D × D)) (es : List DictEntry), EReps c H ps es → EReps c H' ps es
  | [], _, r => r
  | p :: ps, _, ⟨e, r, q, ⟨kk, b, v, e1, e0, e2, e3, e4, e5, e6⟩, t⟩ => ⟨e, r, q, ⟨kk, b, v, e1, e0, e2, e3, Rep.keep k _ _ e4, e5, Rep.keep k _ _ e6⟩, EReps.keep k ps r t⟩
theorem RelS.keep {δ : DSt} {σ : L2.St} (r : RelS c H δ σ) (k : Keeps H H') : RelS c H' δ σ :=
  ⟨r.1, fun i d e => let ⟨v, e1, e2⟩ := r.2 i d e; ⟨v, e1, Rep.keep k d v e2⟩⟩
theorem ObR.keep {a : Addr} {o : DO} (k : Keeps H H') (e : H' a = H a) (r : ObR c H a o) : ObR c H' a o := by
  cases o with
  | lst ds => obtain ⟨xs, e1, e2⟩ := r; exact ⟨xs, by rw [e]; exact e1, Reps.keep k _ _ e2⟩
  | dct kvs => obtain ⟨xs, e1, e2⟩ := r; exact ⟨xs, by rw [e]; exact e1, KReps.keep k _ _ e2⟩
  | ins C fs => obtain ⟨dx, xs, e1, e2⟩ := r; exact ⟨dx, xs, by rw [e]; exact e1, FReps.keep k _ _ e2⟩
  | dth kvs => obtain ⟨es, e1, e2, e3⟩ := r; exact ⟨es, by rw [e]; exact e1, EReps.keep k _ _ e2, e3⟩
theorem Reps.length {K : PySem.W.Frag} : ∀ {ds : List D} {xs : List V}, Reps K H ds xs → xs.length = ds.length
  | [], _, r => by simp only [Reps] at r; subst r; rfl
  | d :: ds, _, r => by
    simp only [Reps] at r
    obtain ⟨x, q, e, r1, r2⟩ := r
    subst e
    simp [r2.length]
theorem Reps.get {K : PySem.W.Frag} : ∀ {ds : List D} {xs : List V} {i : Nat} {d : D}, Reps K H ds xs → ds[i]? = some d → ∃ v, xs[i]? = some v ∧ Rep K H d v
  | [], _, _, _, _, e => by simp at e
  | d :: ds, _, 0, _, r, e => by
    simp only [Reps] at r
    obtain ⟨x, q, e1, r1, r2⟩ := r
    subst e1
    simp at e
    subst e
    exact ⟨x, by simp, r1⟩
  | d :: ds, _, i + 1, _, r, e => by
    simp only [Reps] at r
    obtain ⟨x, q, e1, r1, r2⟩ := r
    subst e1
    obtain ⟨v, h1, h2⟩ := r2.get (i := i) (by simpa using e)
    exact ⟨v, by simpa using h1, h2⟩
theorem Reps.append {K : PySem.W.Frag} : ∀ {ds es : List D} {xs ys : List V}, Reps K H ds xs → Reps K H es ys → Reps K H (ds ++ es) (xs ++ ys)
  | [], _, _, _, r, q => by simp only [Reps] at r; subst r; exact q
  | d :: ds, _, _, _, r, q => by
    simp only [Reps] at r
    obtain ⟨x, z, e1, r1, r2⟩ := r
    subst e1
    simp only [List.cons_append, Reps]
    exact ⟨x, _, rfl, r1, r2.append q⟩
theorem Reps.one {K : PySem.W.Frag} {d : D} {v : V} (r : Rep K H d v) : Reps K H [d] [v] := by simp only [Reps]; exact ⟨v, [], rfl, r, rfl⟩
theorem Reps.cons {K : PySem.W.Frag} {d : D} {v : V} {ds : List D} {xs : List V} (r : Rep K H d v) (q : Reps K H ds xs) : Reps K H (d :: ds) (v :: xs) := by simp only [Reps]; exact ⟨v, xs, rfl, r, q⟩
theorem Reps.nil {K : PySem.W.Frag} : Reps K H [] [] := by simp only [Reps]
theorem Reps.take {K : PySem.W.Frag} : ∀ {ds : List D} {xs : List V} (n : Nat), Reps K H ds xs → Reps K H (ds.take n) (xs.take n)
  | _, _, 0, _ => by simp [Reps]
  | [], _, n + 1, r => by simp only [Reps] at r; subst r; simp [Reps]
  | d :: ds, _, n + 1, r => by
    simp only [Reps] at r
    obtain ⟨x, z, e1, r1, r2⟩ := r
    subst e1
    simp only [List.take_succ_cons, Reps]
    exact ⟨x, _, rfl, r1, r2.take n⟩
theorem Reps.drop {K : PySem.W.Frag} : ∀ {ds : List D} {xs : List V} (n : Nat), Reps K H ds xs → Reps K H (ds.drop n) (xs.drop n)
  | _, _, 0, r => by simpa using r
  | [], _, n + 1, r => by simp only [Reps] at r; subst r; simp [Reps]
  | d :: ds, _, n + 1, r => by
    simp only [Reps] at r
    obtain ⟨x, z, e1, r1, r2⟩ := r
    subst e1
    simp only [List.drop_succ_cons]
    exact r2.drop n
theorem Reps.set {K : PySem.W.Frag} {d : D} {v : V} (r : Rep K H d v) : ∀ {ds : List D} {xs : List V} (i : Nat), Reps K H ds xs → Reps K H (ds.set i d) (xs.set i v)
  | [], _, _, q => by simp only [Reps] at q; subst q; simp [Reps]
  | _ :: ds, _, 0, q => by
    simp only [Reps] at q
    obtain ⟨x, z, e1, r1, r2⟩ := q
    subst e1
    simp only [List.set_cons_zero, Reps]
    exact ⟨v, _, rfl, r, r2⟩
  | _ :: ds, _, i + 1, q => by
    simp only [Reps] at q
    obtain ⟨x, z, e1, r1, r2⟩ := q
    subst e1
    simp only [List.set_cons_succ, Reps]
    exact ⟨x, _, rfl, r1, Reps.set r i r2⟩
theorem keeps_new {a : Addr} {u : HO} (n : H a = none) : Keeps H (upd H a u) := ⟨fun b xs e => by rw [upd_ne (ne_of_none e n)]; exact e, fun b ob z e => by rw [upd_ne (ne_of_none e n)]; exact e⟩
/-- a new object, tracked and seen -/
theorem RelH.laid {a : Addr} {o : DO} {u : HO} (r : RelH c H h) (n : H a = none) (new : ObR c (upd H a u) a o) : RelH c (upd H a u) (put h a o) ∧ Ext h (put h a o) H (upd H a u) := by
  refine ⟨⟨fun b ob e => ?_, r.tabs.ext fun b ob e => by rw [upd_ne (ne_of_none e n)]; exact e⟩, fun b ob nb e nt => ?_⟩
  · by_cases q : b = a
    · subst q
      rw [put_same] at e
      cases e
      exact new
    · rw [put_ne q] at e
      exact (r.at_ b ob e).keep (keeps_new n) (upd_ne q)
  · have q : b ≠ a := ne_of_none e n
    exact ⟨by rw [upd_ne q]; exact e, by rw [put_ne q]; exact nb⟩
/-- a new object that D does not see -/
theorem RelH.hid {a : Addr} {u : HO} (r : RelH c H h) (n : H a = none) : RelH c (upd H a u) h ∧ Ext h h H (upd H a u) := by
  refine ⟨⟨fun b ob e => ?_, r.tabs.ext fun b ob e => by rw [upd_ne (ne_of_none e n)]; exact e⟩, fun b ob nb e nt => ?_⟩
  · have z := r.at_ b ob e
    obtain ⟨w, e1, _⟩ := z.some
    exact z.keep (keeps_new n) (upd_ne (ne_of_none e1 n))
  · exact ⟨by rw [upd_ne (ne_of_none e n)]; exact e, nb⟩
/-- where a record of a code object stands, nothing of ours stands -/
def NoCode (u : HO) : Prop := ∀ (b : Addr) (q : Str), u ≠ LamX.CodeO b q
theorem noCode_lst {xs : List V} : NoCode (.lst xs) := fun b q z => by unfold LamX.CodeO at z; cases z
theorem noCode_dK {xs : List (Key × V)} : NoCode (.dK xs) := fun b q z => by unfold LamX.CodeO at z; cases z
theorem noCode_ins {C dx : Addr} {fs : List (Str × V)} : NoCode (.ins C dx fs) := fun b q z => by unfold LamX.CodeO at z; cases z
/-- a seen object is written: w stood there -/
theorem RelH.wrote {a : Addr} {o o' : DO} {u w : HO} (r : RelH c H h) (e : h a = some o) (ew : H a = some w) (nc : NoCode w) (new : Keeps H (upd H a u) → ObR c (upd H a u) a o') : RelH c (upd H a u) (put h a o') ∧ Ext h (put h a o') H (upd H a u) := by
  obtain ⟨w', ew', sw⟩ := (r.at_ a o e).some
  rw [ew] at ew'
  cases ew'
  have ne_ : ∀ b v, H b = some v → ¬ Seen v → b ≠ a := fun b v q z y => by subst y; rw [ew] at q; cases q; exact z sw
  have k : Keeps H (upd H a u) := ⟨fun b xs q => by rw [upd_ne (ne_ b _ q fun z => z)]; exact q, fun b ob z q => by rw [upd_ne (ne_ b _ q fun z => z)]; exact q⟩
  refine ⟨⟨fun b ob eb => ?_, fun p hp => ?_⟩, fun b ob nb eb nt => ?_⟩
  · by_cases q : b = a
    · subst q
      rw [put_same] at eb
      cases eb
      exact new k
    · rw [put_ne q] at eb
      exact (r.at_ b ob eb).keep k (upd_ne q)
  · obtain ⟨ps, t1, t2, t3⟩ := r.tabs p hp
    refine ⟨ps, by rw [upd_ne (ne_ _ _ t1 fun z => z)]; exact t1, t2, fun pos cv hc => ?_⟩
    obtain ⟨b, e1, e2⟩ := t3 pos cv hc
    exact ⟨b, e1, by rw [upd_ne fun y => by subst y; rw [ew] at e2; exact nc _ _ (Option.some.inj e2)]; exact e2⟩
  · have q : b ≠ a := fun z => by subst z; rw [e] at nb; cases nb
    exact ⟨by rw [upd_ne q]; exact eb, by rw [put_ne q]; exact nb⟩
/-- D may forget what it sees -/
theorem RelH.less {g : DHp} (r : RelH c H h) (l : ∀ a o, g a = some o → h a = some o) : RelH c H g := ⟨fun a o e => r.at_ a o (l a o e), r.tabs⟩
end
end Tw
/-! Rules over data: expressions. -/
namespace Tw
open PySem PySem.Spec PyProof.Rows L2
abbrev DK := D → DHp → Prop
abbrev DX := Ex → DHp → Prop
abbrev ME := DSt → DHp → DK → DX → Prop
abbrev MA := DSt → DHp → (List D → DHp → Prop) → DX → Prop
abbrev MT := DSt → DHp → (Bool → DHp → Prop) → DX → Prop
abbrev cn (X : Cx) (T : Tb) : Cn := ⟨X.K, X.w, T⟩
/-- what comes of data is what comes of values -/
def Bk (c : Cn) (h : DHp) (H : Hp) (Q' : DK) (Q : VK) : Prop := ∀ v d H' h', Ext h h' H H' → Rep c.K H' d v → RelH c H' h' → Q' d h' → Q v H'
def BkX (c : Cn) (h : DHp) (H : Hp) (E' : DX) (W : WX) (σ : L2.St) : Prop := ∀ C H' h', Ext h h' H H' → RelH c H' h' → E' C h' → W (.ref (c.T.ec C)) none σ H'
def up (c : Cn) (W : WX) (m : ME) : TE := fun σ H Q => ∃ δ h Q' E', RelS c H δ σ ∧ RelH c H h ∧ m δ h Q' E' ∧ Bk c h H Q' Q ∧ BkX c h H E' W σ
def upA (c : Cn) (W : WX) (m : MA) : TA := fun σ H Q => ∃ δ h Q' E', RelS c H δ σ ∧ RelH c H h ∧ m δ h Q' E' ∧ (∀ vs ds H' h', Ext h h' H H' → Reps c.K H' ds vs → RelH c H' h' → Q' ds h' → Q vs H') ∧ BkX c h H E' W σ
def upT (c : Cn) (W : WX) (m : MT) : TT := fun σ H Q => ∃ δ h Q' E', RelS c H δ σ ∧ RelH c H h ∧ m δ h Q' E' ∧ (∀ b H' h', Ext h h' H H' → RelH c H' h' → Q' b h' → Q b H') ∧ BkX c h H E' W σ
abbrev DE (X : Cx) (T : Tb) (W : WX) (e : Expr) (m : ME) : Prop := PE X e (up (cn X T) W m)
abbrev DA (X : Cx) (T : Tb) (W : WX) (es : List Expr) (m : MA) : Prop := PA X es (upA (cn X T) W m)
abbrev DT (X : Cx) (T : Tb) (W : WX) (e : Expr) (m : MT) : Prop := PT X e (upT (cn X T) W m)

theorem pe_imp {X : Cx} {e : Expr} {t u : TE} (h : PE X e t) (i : ∀ σ H Q, u σ H Q → t σ H Q) : PE X e u := ⟨fun pins s σ H Q I q => h.run pins s σ H Q I (i σ H Q q)⟩
theorem pa_imp {X : Cx} {e : List Expr} {t u : TA} (h : PA X e t) (i : ∀ σ H Q, u σ H Q → t σ H Q) : PA X e u := ⟨fun pos pins s σ H Q I q => h.run pos pins s σ H Q I (i σ H Q q)⟩
theorem pt_imp {X : Cx} {e : Expr} {t u : TT} (h : PT X e t) (i : ∀ σ H Q, u σ H Q → t σ H Q) : PT X e u := ⟨fun pins s σ H Q I q => h.run pins s σ H Q I (i σ H Q q)⟩

section
variable {c : Cn} {h h1 h2 : DHp} {H H1 H2 : Hp} {Q' : DK} {Q : VK} {E' : DX} {W : WX} {σ : L2.St} {δ : DSt}
theorem Bk.after (k : Bk c h H Q' Q) (x : Ext h h1 H H1) : Bk c h1 H1 Q' Q := fun v d H' h' x' r rh q => k v d H' h' (x.trans x') r rh q
theorem BkX.after (k : BkX c h H E' W σ) (x : Ext h h1 H H1) : BkX c h1 H1 E' W σ := fun C H' h' x' rh q => k C H' h' (x.trans x') rh q
theorem Bk.here (k : Bk c h H Q' Q) {v : V} {d : D} (r : Rep c.K H d v) (rh : RelH c H h) (q : Q' d h) : Q v H := k v d H h Ext.refl r rh q
end

/-! ### operations on values, by data -/
def upO (c : Cn) (rd : D → D → DHp → DK → Prop) : R2 := fun x y H Q => ∃ dx dy h Q', Rep c.K H dx x ∧ Rep c.K H dy y ∧ RelH c H h ∧ rd dx dy h Q' ∧ Bk c h H Q' Q
def OpD (X : Cx) (T : Tb) (f : Value → Value → Sem Value) (rd : D → D → DHp → DK → Prop) : Prop := OpR X f (upO (cn X T) rd)
def dOp (rd : D → D → DHp → DK → Prop) (ma mb : ME) : ME := fun δ h Q E => ma δ h (fun x h1 => mb δ h1 (fun y h2 => rd x y h2 Q) E) E
section
variable {X : Cx} {T : Tb} {W : WX} {a b e : Expr} {es : List Expr} {ma mb m : ME} {ms : MA} {pos : Pos} {rd : D → D → DHp → DK → Prop}
theorem up_op {r : R2} (hr : r = upO (cn X T) rd) : ∀ σ H Q, up (cn X T) W (dOp rd ma mb) σ H Q → tOp r (up (cn X T) W ma) (up (cn X T) W mb) σ H Q := by
  subst hr
  rintro σ H Q ⟨δ, h, Q', E', rs, rh, hm, k, kx⟩
  refine ⟨δ, h, _, E', rs, rh, hm, fun x dx H1 h1 x1 r1 rh1 q1 => ?_, kx⟩
  refine ⟨δ, h1, _, E', rs.keep (x1.keeps rh), rh1, q1, fun y dy H2 h2 x2 r2 rh2 q2 => ?_, kx.after x1⟩
  exact ⟨dx, dy, h2, Q', Rep.keep (x2.keeps rh1) _ _ r1, r2, rh2, q2, k.after (x1.trans x2)⟩
theorem de_bin {op : Operator} (ho : OpD X T (binaryOp op) rd) (ha : DE X T W a ma) (hb : DE X T W b mb) : DE X T W (.BinOp a op b pos) (dOp rd ma mb) := pe_imp (pe_op ho ha hb) (up_op rfl)
theorem de_cmp {op : CmpOp} (ho : OpD X T (compareOp op) rd) (ha : DE X T W a ma) (hb : DE X T W b mb) (hm : behindInMarks op b = false := by first | exact nomark _ | with_unfolding_all rfl) : DE X T W (.Compare a [op] [b] pos) (dOp rd ma mb) := pe_imp (pe_cmpR ho ha hb hm) (up_op rfl)
/-- of a bool -/
def onB (d : D) (k : Bool → Prop) : Prop := match d with | .bl b => k b | _ => False
theorem onB_bl {b : Bool} {k : Bool → Prop} : onB (.bl b) k = k b := rfl
/-- a value that is a bool, as a test -/
def dTest (m : ME) : MT := fun δ h Q E => m δ h (fun d h1 => onB d fun b => Q b h1) E
theorem up_test : ∀ {t : TE}, (∀ σ H Q, up (cn X T) W m σ H Q → t σ H Q) → ∀ σ H Q, upT (cn X T) W (dTest m) σ H Q → tTest t σ H Q := by
  rintro t i σ H Q ⟨δ, h, Q', E', rs, rh, hm, k, kx⟩
  refine i σ H _ ⟨δ, h, _, E', rs, rh, hm, fun v d H1 h1 x1 r1 rh1 q1 => ?_, kx⟩
  cases d with
  | bl b =>
    simp only [Rep] at r1
    exact ⟨b, r1, k b H1 h1 x1 rh1 q1⟩
  | _ => exact False.elim q1
theorem dt_cmp {op : CmpOp} (ho : OpD X T (compareOp op) rd) (ha : DE X T W a ma) (hb : DE X T W b mb) (hm : behindInMarks op b = false := by first | exact nomark _ | with_unfolding_all rfl) : DT X T W (.Compare a [op] [b] pos) (dTest (dOp rd ma mb)) := pt_imp (pt_cmpR ho ha hb hm) (up_test (up_op rfl))

/-! ### names, constants -/
def dVar (i : Nat) : ME := fun δ h Q _ => match δ[i]? with
  | some (some d) => Q d h
  | _ => False
def dC (d : D) : ME := fun _ h Q _ => Q d h
theorem de_var {i : Nat} {x : Str} (hN : X.N[i]? = some x) (hv : Vis X.env.scope x) (hd : (x == ("__debug__" : Str)) = false := by decide) (hcd : (x == ("__classdict__" : Str)) = false := by decide) : DE X T W (.Name x pos) (dVar i) := by
  refine pe_imp (pe_var hN hv hd hcd) ?_
  rintro σ H Q ⟨δ, h, Q', E', rs, rh, q, k, kx⟩
  have z : ∃ d, δ[i]? = some (some d) ∧ Q' d h := by
    unfold dVar at q
    split at q
    · rename_i d e
      exact ⟨d, e, q⟩
    · exact q.elim
  obtain ⟨d, e, q⟩ := z
  obtain ⟨v, e1, r⟩ := rs.2 i d e
  exact ⟨v, e1, k.here r rh q⟩
theorem de_c {v : V} {d : D} (he : PE X e (tC v)) (r : ∀ H, Rep X.K H d v) : DE X T W e (dC d) := by
  refine pe_imp he ?_
  rintro σ H Q ⟨δ, h, Q', E', rs, rh, q, k, kx⟩
  exact k.here (r H) rh q
theorem de_int {i : Int} {j} : DE X T W (.Constant (.int i) j pos) (dC (.int i)) := de_c pe_int fun _ => by simp only [Rep]
theorem de_bl {b : Bool} {j} : DE X T W (.Constant (.bool b) j pos) (dC (.bl b)) := de_c pe_bl fun _ => by simp only [Rep]
theorem de_non {j} : DE X T W (.Constant .none j pos) (dC .non) := de_c pe_non fun _ => by simp only [Rep]
theorem de_str {x : Str} {z : List Nat} {j} (hz : x = tx z := by rfl) : DE X T W (.Constant (.str x) j pos) (dC (.str z)) := by
  subst hz
  exact de_c pe_str fun _ => by simp only [Rep]
theorem de_glob {x : Str} {v : V} {u : Value} {d : D} (hg : Gl X x) (hm : X.mg x = some u) (r : RelV v u) (rp : ∀ H, Rep X.K H d v) (hd : (x == ("__debug__" : Str)) = false := by decide) : DE X T W (.Name x pos) (dC d) := de_c (pe_glob hg hm r hd) rp

/-! ### and, or, not, if -/
variable {A B : MT} {rest : List Expr} {pos' : Pos}
structure DW (X : Cx) (T : Tb) (W : WX) (e : Expr) (m : MT) : Prop where
  w : PW X e (upT (cn X T) W m)
theorem DW.t (h : DW X T W e A) : DT X T W e A := h.w.pt
def dAnd (p q : MT) : MT := fun δ h Q E => p δ h (fun b h1 => (b = true → q δ h1 Q E) ∧ (b = false → Q false h1)) E
def dOr (p q : MT) : MT := fun δ h Q E => p δ h (fun b h1 => (b = true → Q true h1) ∧ (b = false → q δ h1 Q E)) E
def dNot (p : MT) : MT := fun δ h Q E => p δ h (fun b h1 => Q (!b) h1) E
theorem pw_imp {t u : TT} (h : PW X e t) (i : ∀ σ H Q, u σ H Q → t σ H Q) : PW X e u := ⟨fun wh pins s σ H Q I q => h.run wh pins s σ H Q I (i σ H Q q)⟩
theorem up_and : ∀ σ H Q, upT (cn X T) W (dAnd A B) σ H Q → tAnd (upT (cn X T) W A) (upT (cn X T) W B) σ H Q := by
  rintro σ H Q ⟨δ, h, Q', E', rs, rh, hm, k, kx⟩
  refine ⟨δ, h, _, E', rs, rh, hm, fun b H1 h1 x1 rh1 q1 => ?_, kx⟩
  cases b with
  | true => exact ⟨δ, h1, Q', E', rs.keep (x1.keeps rh), rh1, q1.1 rfl, fun b H' h' x' rh' q' => k b H' h' (x1.trans x') rh' q', kx.after x1⟩
  | false => exact k false H1 h1 x1 rh1 (q1.2 rfl)
theorem up_or : ∀ σ H Q, upT (cn X T) W (dOr A B) σ H Q → tOr (upT (cn X T) W A) (upT (cn X T) W B) σ H Q := by
  rintro σ H Q ⟨δ, h, Q', E', rs, rh, hm, k, kx⟩
  refine ⟨δ, h, _, E', rs, rh, hm, fun b H1 h1 x1 rh1 q1 => ?_, kx⟩
  cases b with
  | false => exact ⟨δ, h1, Q', E', rs.keep (x1.keeps rh), rh1, q1.2 rfl, fun b H' h' x' rh' q' => k b H' h' (x1.trans x') rh' q', kx.after x1⟩
  | true => exact k true H1 h1 x1 rh1 (q1.1 rfl)
theorem dw_and1 (ha : DT X T W a A) : DW X T W (.BoolOp .And [a] pos) A := ⟨pw_and1 ha⟩
theorem dw_or1 (ha : DT X T W a A) : DW X T W (.BoolOp .Or [a] pos) A := ⟨pw_or1 ha⟩
theorem dw_and (ha : DT X T W a A) (hb : DW X T W (.BoolOp .And (b :: rest) pos) B) : DW X T W (.BoolOp .And (a :: b :: rest) pos) (dAnd A B) := ⟨pw_imp (pw_and ha hb.w) up_and⟩
theorem dw_or (ha : DT X T W a A) (hb : DW X T W (.BoolOp .Or (b :: rest) pos) B) : DW X T W (.BoolOp .Or (a :: b :: rest) pos) (dOr A B) := ⟨pw_imp (pw_or ha hb.w) up_or⟩
theorem dt_not (ha : DT X T W a A) : DT X T W (.UnaryOp .Not a pos) (dNot A) := by
  refine pt_imp (pt_not ha) ?_
  rintro σ H Q ⟨δ, h, Q', E', rs, rh, hm, k, kx⟩
  exact ⟨δ, h, _, E', rs, rh, hm, fun b H1 h1 x1 rh1 q1 => k _ H1 h1 x1 rh1 q1, kx⟩
/-- as values: bools -/
def dAndV (ma mb : ME) : ME := fun δ h Q E => ma δ h (fun x h1 => onB x fun b => (b = true → mb δ h1 Q E) ∧ (b = false → Q (.bl false) h1)) E
def dOrV (ma mb : ME) : ME := fun δ h Q E => ma δ h (fun x h1 => onB x fun b => (b = true → Q (.bl true) h1) ∧ (b = false → mb δ h1 Q E)) E
def dNotV (ma : ME) : ME := fun δ h Q E => ma δ h (fun x h1 => onB x fun b => Q (.bl (!b)) h1) E
theorem de_one {op} (ha : DE X T W a m) : DE X T W (.BoolOp op [a] pos) m := pe_one ha
theorem de_and (ha : DE X T W a ma) (hb : DE X T W (.BoolOp .And (b :: rest) pos) mb) : DE X T W (.BoolOp .And (a :: b :: rest) pos) (dAndV ma mb) := by
  refine pe_imp (pe_and ha hb) ?_
  rintro σ H Q ⟨δ, h, Q', E', rs, rh, hm, k, kx⟩
  refine ⟨δ, h, _, E', rs, rh, hm, fun v d H1 h1 x1 r1 rh1 q1 => ?_, kx⟩
  cases d with
  | bl b =>
    simp only [Rep] at r1
    cases b with
    | true => exact ⟨true, r1, ⟨δ, h1, Q', E', rs.keep (x1.keeps rh), rh1, q1.1 rfl, k.after x1, kx.after x1⟩⟩
    | false => exact ⟨false, r1, k _ _ _ _ x1 (by simp only [Rep]) rh1 (q1.2 rfl)⟩
  | _ => exact False.elim q1
theorem de_or (ha : DE X T W a ma) (hb : DE X T W (.BoolOp .Or (b :: rest) pos) mb) : DE X T W (.BoolOp .Or (a :: b :: rest) pos) (dOrV ma mb) := by
  refine pe_imp (pe_or ha hb) ?_
  rintro σ H Q ⟨δ, h, Q', E', rs, rh, hm, k, kx⟩
  refine ⟨δ, h, _, E', rs, rh, hm, fun v d H1 h1 x1 r1 rh1 q1 => ?_, kx⟩
  cases d with
  | bl b =>
    simp only [Rep] at r1
    cases b with
    | false => exact ⟨false, r1, ⟨δ, h1, Q', E', rs.keep (x1.keeps rh), rh1, q1.2 rfl, k.after x1, kx.after x1⟩⟩
    | true => exact ⟨true, r1, k _ _ _ _ x1 (by simp only [Rep]) rh1 (q1.1 rfl)⟩
  | _ => exact False.elim q1
theorem de_not (ha : DE X T W a ma) : DE X T W (.UnaryOp .Not a pos) (dNotV ma) := by
  refine pe_imp (pe_not ha) ?_
  rintro σ H Q ⟨δ, h, Q', E', rs, rh, hm, k, kx⟩
  refine ⟨δ, h, _, E', rs, rh, hm, fun v d H1 h1 x1 r1 rh1 q1 => ?_, kx⟩
  cases d with
  | bl b =>
    simp only [Rep] at r1
    exact ⟨b, r1, k _ _ _ _ x1 (by simp only [Rep]) rh1 q1⟩
  | _ => exact False.elim q1
def dIf (p : MT) (ma mb : ME) : ME := fun δ h Q E => p δ h (fun b h1 => (b = true → ma δ h1 Q E) ∧ (b = false → mb δ h1 Q E)) E
theorem de_if {t : Expr} (ht : DT X T W t A) (ha : DE X T W a ma) (hb : DE X T W b mb) : DE X T W (.IfExp t a b pos) (dIf A ma mb) := by
  refine pe_imp (pe_ifExp ht ha hb) ?_
  rintro σ H Q ⟨δ, h, Q', E', rs, rh, hm, k, kx⟩
  refine ⟨δ, h, _, E', rs, rh, hm, fun b H1 h1 x1 rh1 q1 => ?_, kx⟩
  cases b with
  | true => exact ⟨δ, h1, Q', E', rs.keep (x1.keeps rh), rh1, q1.1 rfl, k.after x1, kx.after x1⟩
  | false => exact ⟨δ, h1, Q', E', rs.keep (x1.keeps rh), rh1, q1.2 rfl, k.after x1, kx.after x1⟩

/-! ### argument lists, displays -/
def dNil : MA := fun _ h Q _ => Q [] h
def dCons (m : ME) (ms : MA) : MA := fun δ h Q E => m δ h (fun x h1 => ms δ h1 (fun xs h2 => Q (x :: xs) h2) E) E
theorem da_nil : DA X T W [] dNil := by
  refine pa_imp pa_nil ?_
  rintro σ H Q ⟨δ, h, Q', E', rs, rh, q, k, kx⟩
  exact k [] [] H h Ext.refl Reps.nil rh q
theorem da_cons (ha : DE X T W e m) (hr : DA X T W es ms) (hs : starEach (e :: es) X.env = (false, eval e X.env) :: starEach es X.env := by rfl) : DA X T W (e :: es) (dCons m ms) := by
  refine pa_imp (pa_cons ha hr hs) ?_
  rintro σ H Q ⟨δ, h, Q', E', rs, rh, hm, k, kx⟩
  refine ⟨δ, h, _, E', rs, rh, hm, fun v d H1 h1 x1 r1 rh1 q1 => ?_, kx⟩
  refine ⟨δ, h1, _, E', rs.keep (x1.keeps rh), rh1, q1, fun vs ds H2 h2 x2 r2 rh2 q2 => ?_, kx.after x1⟩
  exact k _ _ _ _ (x1.trans x2) (Reps.cons (Rep.keep (x2.keeps rh1) _ _ r1) r2) rh2 q2
def dTup (ms : MA) : ME := fun δ h Q E => ms δ h (fun ds h1 => ds.length ≤ sizeLine ∧ Q (.tup ds) h1) E
def dLst (ms : MA) : ME := fun δ h Q E => ms δ h (fun ds h1 => ds.length ≤ sizeLine ∧ ∀ p, h1 p = none → Q (.ref p) (put h1 p (.lst ds))) E
theorem de_tup {k} (hs : DA X T W es ms) : DE X T W (.Tuple es k pos) (dTup ms) := by
  refine pe_imp (pe_tup hs) ?_
  rintro σ H Q ⟨δ, h, Q', E', rs, rh, hm, k, kx⟩
  refine ⟨δ, h, _, E', rs, rh, hm, fun vs ds H1 h1 x1 r1 rh1 ⟨z, q1⟩ => ⟨by rw [r1.length]; exact z, fun p n => ?_⟩, kx⟩
  obtain ⟨rh2, x2⟩ := rh1.hid (u := .tup vs) n
  exact k _ _ _ _ (x1.trans x2) (by simp only [Rep]; exact ⟨p, vs, rfl, .inl upd_same, Reps.keep (keeps_new n) _ _ r1⟩) rh2 q1
theorem de_lst (hs : DA X T W es ms) : DE X T W (.List es pos) (dLst ms) := by
  refine pe_imp (pe_lst hs) ?_
  rintro σ H Q ⟨δ, h, Q', E', rs, rh, hm, k, kx⟩
  refine ⟨δ, h, _, E', rs, rh, hm, fun vs ds H1 h1 x1 r1 rh1 ⟨z, q1⟩ => ⟨by rw [r1.length]; exact z, fun p n => ?_⟩, kx⟩
  obtain ⟨rh2, x2⟩ := rh1.laid (o := .lst ds) (u := .lst vs) n ⟨vs, upd_same, Reps.keep (keeps_new n) _ _ r1⟩
  exact k _ _ _ _ (x1.trans x2) (by simp only [Rep]) rh2 (q1 p (rh1.fresh n))
/-- a new list behind a call -/
theorem RelH.newList {c : Cn} {h : DHp} {H : Hp} {p : Addr} {vs : List V} {ds : List D} (rh : RelH c H h) (n : H p = none) (r : Reps c.K H ds vs) : RelH c (upd H p (.lst vs)) (put h p (.lst ds)) ∧ Ext h (put h p (.lst ds)) H (upd H p (.lst vs)) :=
  rh.laid n ⟨vs, upd_same, Reps.keep (keeps_new n) _ _ r⟩
end
end Tw
/-! Rules over data: operations. -/
namespace Tw
open PySem PySem.Spec PyProof.Rows L2
theorem tx_app (a b : List Nat) : tx a ++ tx b = tx (a ++ b) := by
  show (⟨a.toArray ++ b.toArray⟩ : Str) = ⟨(a ++ b).toArray⟩
  rw [List.append_toArray]
theorem tx_len (a : List Nat) : (tx a).length = a.length := by
  show a.toArray.size = a.length
  simp
theorem tx_inj {a b : List Nat} : tx a = tx b ↔ a = b := by
  constructor
  · intro h
    have h1 : a.toArray = b.toArray := congrArg Str.cps h
    simpa using h1
  · intro h; rw [h]
theorem tx_nil : tx [] = Str.empty := rfl

/-! ### data for == -/
mutual
inductive Py (h : DHp) : D → PyData → Prop
  | non : Py h .non .none
  | bl (b : Bool) : Py h (.bl b) (.bool b)
  | int (i : Int) : Py h (.int i) (.int i)
  | str (x : List Nat) : Py h (.str x) (.str (tx x))
  | lst {a : Addr} {ds : List D} {ps : List PyData} : h a = some (.lst ds) → PyA h ds ps → Py h (.ref a) (.list ps)
  | tup {ds : List D} {ps : List PyData} : PyA h ds ps → Py h (.tup ds) (.tuple ps)
inductive PyA (h : DHp) : List D → List PyData → Prop
  | nil : PyA h [] []
  | cons {d : D} {ds : List D} {p : PyData} {ps : List PyData} : Py h d p → PyA h ds ps → PyA h (d :: ds) (p :: ps)
end
section
variable {c : Cn} {h : DHp} {H : Hp}
mutual
theorem Py.dp (rh : RelH c H h) : ∀ (p : PyData) (d : D) (v : V), Py h d p → Rep c.K H d v → Dp c.K H v p
  | .none, _, _, y, r => by
    cases y; simp only [Rep] at r; subst r; exact .non
  | .bool b, _, _, y, r => by
    cases y; simp only [Rep] at r; subst r; exact .bl b
  | .int i, _, _, y, r => by
    cases y; simp only [Rep] at r; subst r; exact .int i
  | .str x, _, _, y, r => by
    cases y; simp only [Rep] at r; subst r; exact .str _
  | .list ps, _, _, y, r => by
    cases y with
    | lst e q =>
      simp only [Rep] at r; subst r
      obtain ⟨xs, e1, e2⟩ := rh.at_ _ _ e
      exact .lst (.inl (.inl e1)) (Py.dpA rh ps _ _ q e2)
  | .tuple ps, _, _, y, r => by
    cases y with
    | tup q =>
      simp only [Rep] at r
      obtain ⟨a, xs, e, t, e2⟩ := r
      subst e
      exact .tup t.sqt (Py.dpA rh ps _ _ q e2)
  | .dict _, _, _, y, _ => by cases y
theorem Py.dpA (rh : RelH c H h) : ∀ (ps : List PyData) (ds : List D) (vs : List V), PyA h ds ps → Reps c.K H ds vs → DpAll c.K H vs ps
  | [], _, _, y, r => by
    cases y; simp only [Reps] at r; subst r; exact .nil
  | p :: ps, _, _, y, r => by
    cases y with
    | cons y1 y2 =>
      simp only [Reps] at r
      obtain ⟨x, z, e, r1, r2⟩ := r
      subst e
      exact .cons (Py.dp rh p _ _ y1 r1) (Py.dpA rh ps _ _ y2 r2)
end
end
/-- scalars that == tells apart at once -/
def scalD : D → D → Option Bool
  | .non, .non => some true
  | .bl a, .bl b => some (a == b)
  | .int a, .int b => some (a == b)
  | .str a, .str b => some (a == b)
  | .non, .int _ => some false
  | .non, .bl _ => some false
  | .non, .str _ => some false
  | .int _, .non => some false
  | .bl _, .non => some false
  | .str _, .non => some false
  | .int _, .str _ => some false
  | .str _, .int _ => some false
  | .bl _, .str _ => some false
  | .str _, .bl _ => some false
  | _, _ => none
def dEq : D → D → DHp → DK → Prop := fun x y h Q => match scalD x y with
  | some b => Q (.bl b) h
  | none => ∃ p q, Py h x p ∧ Py h y q ∧ SeqAt.shaped p = true ∧ SeqAt.shaped q = true ∧ Q (.bl (PyData.eqv p q)) h
def dNe : D → D → DHp → DK → Prop := fun x y h Q => match scalD x y with
  | some b => Q (.bl (!b)) h
  | none => ∃ p q, Py h x p ∧ Py h y q ∧ SeqAt.shaped p = true ∧ SeqAt.shaped q = true ∧ Q (.bl (!PyData.eqv p q)) h
/-- x in a list or a tuple -/
def dInS (x : D) (y : D) (h : DHp) (Q : Bool → Prop) : Prop := ∃ p ps, Py h x p ∧ (Py h y (.list ps) ∧ SeqAt.shaped (.list ps) = true ∨ Py h y (.tuple ps) ∧ SeqAt.shaped (.tuple ps) = true) ∧ SeqAt.shaped p = true ∧ Q (ps.any fun z => PyData.eqv z p)
/-- does a text stand in another -/
def subT (a b : List Nat) : Bool := !(Builtin.Str.occurrences (tx b) (tx a) 0 (tx b).length 1).isEmpty

section
variable {X : Cx} {T : Tb}
theorem rel_non {K : PySem.W.Frag} {H : Hp} {v : V} (r : Rep K H .non v) : v = .non := by simpa only [Rep] using r
theorem rel_bl {K : PySem.W.Frag} {H : Hp} {v : V} {b : Bool} (r : Rep K H (.bl b) v) : v = .bl b := by simpa only [Rep] using r
theorem rel_int {K : PySem.W.Frag} {H : Hp} {v : V} {b : Int} (r : Rep K H (.int b) v) : v = .int b := by simpa only [Rep] using r
theorem rel_str {K : PySem.W.Frag} {H : Hp} {v : V} {b : List Nat} (r : Rep K H (.str b) v) : v = .str (tx b) := by simpa only [Rep] using r
theorem rel_ref {K : PySem.W.Frag} {H : Hp} {v : V} {b : Addr} (r : Rep K H (.ref b) v) : v = .ref b := by simpa only [Rep] using r
theorem rel_tup {K : PySem.W.Frag} {H : Hp} {v : V} {ds : List D} (r : Rep K H (.tup ds) v) : ∃ a xs, v = .ref a ∧ Tp K H a xs ∧ Reps K H ds xs := by simpa only [Rep] using r
theorem mk_non {K : PySem.W.Frag} {H : Hp} : Rep K H .non .non := by simp only [Rep]
theorem mk_bl {K : PySem.W.Frag} {H : Hp} {b : Bool} : Rep K H (.bl b) (.bl b) := by simp only [Rep]
theorem mk_int {K : PySem.W.Frag} {H : Hp} {b : Int} : Rep K H (.int b) (.int b) := by simp only [Rep]
theorem mk_str {K : PySem.W.Frag} {H : Hp} {b : List Nat} : Rep K H (.str b) (.str (tx b)) := by simp only [Rep]
theorem mk_ref {K : PySem.W.Frag} {H : Hp} {a : Addr} : Rep K H (.ref a) (.ref a) := by simp only [Rep]
theorem mk_tup {K : PySem.W.Frag} {H : Hp} {ds : List D} {a : Addr} {xs : List V} (t : Tp K H a xs) (r : Reps K H ds xs) : Rep K H (.tup ds) (.ref a) := by simp only [Rep]; exact ⟨a, xs, rfl, t, r⟩

theorem scal_rep {K : PySem.W.Frag} {H : Hp} {dx dy : D} {x y : V} {b : Bool} (r1 : Rep K H dx x) (r2 : Rep K H dy y) (e : scalD dx dy = some b) : scal x y = true ∧ decide (x = y) = b := by
  cases dx <;> cases dy <;> simp only [scalD, reduceCtorEq, Option.some.injEq] at e <;> subst e <;> simp only [Rep] at r1 r2 <;> subst r1 r2 <;> refine ⟨rfl, ?_⟩ <;> first
    | rfl
    | (rw [Bool.eq_iff_iff]; simp [-Str.mk.injEq]; try exact tx_inj)
    | simp
theorem or_eq (hu : X.A.units + 64 < cLine) : OpD X T (compareOp .Eq) dEq := by
  intro pins s σ H x y v u Q I rx ry hh
  obtain ⟨dx, dy, h, Q', r1, r2, rh, q, k⟩ := hh
  unfold dEq at q
  cases e : scalD dx dy with
  | some b =>
    rw [e] at q
    obtain ⟨z1, z2⟩ := scal_rep r1 r2 e
    exact op_eq pins s σ H x y v u Q I rx ry ⟨z1, by rw [z2]; exact k.here mk_bl rh q⟩
  | none =>
    rw [e] at q
    obtain ⟨p, q', y1, y2, s1, s2, hq⟩ := q
    exact op_eqD hu pins s σ H x y v u Q I rx ry ⟨p, q', y1.dp rh p _ _ r1, y2.dp rh q' _ _ r2, s1, s2, k.here mk_bl rh hq⟩
theorem or_ne (hu : X.A.units + 64 < cLine) : OpD X T (compareOp .NotEq) dNe := by
  intro pins s σ H x y v u Q I rx ry hh
  obtain ⟨dx, dy, h, Q', r1, r2, rh, q, k⟩ := hh
  unfold dNe at q
  cases e : scalD dx dy with
  | some b =>
    rw [e] at q
    obtain ⟨z1, z2⟩ := scal_rep r1 r2 e
    exact op_ne pins s σ H x y v u Q I rx ry ⟨z1, by rw [z2]; exact k.here mk_bl rh q⟩
  | none =>
    rw [e] at q
    obtain ⟨p, q', y1, y2, s1, s2, hq⟩ := q
    exact op_neD hu pins s σ H x y v u Q I rx ry ⟨p, q', y1.dp rh p _ _ r1, y2.dp rh q' _ _ r2, s1, s2, k.here mk_bl rh hq⟩

def dI (g : Int → Int → D) (x y : D) (h : DHp) (Q : DK) : Prop := match x, y with
  | .int i, .int j => Q (g i j) h
  | _, _ => False
theorem ints_of {x y : D} {h : DHp} {Q : DK} {g : Int → Int → D} (q : dI g x y h Q) : ∃ i j, x = .int i ∧ y = .int j ∧ Q (g i j) h := by
  cases x <;> cases y <;> first | exact ⟨_, _, rfl, rfl, q⟩ | exact False.elim q
theorem or_int {f : Value → Value → Sem Value} {g : Int → Int → V} {gd : Int → Int → D} (ho : OpR X f (rI0 g)) (hg : ∀ H i j, Rep X.K H (gd i j) (g i j)) : OpD X T f (dI gd) := by
  intro pins s σ H x y v u Q I rx ry hh
  obtain ⟨dx, dy, h, Q', r1, r2, rh, hq, k⟩ := hh
  obtain ⟨i, j, rfl, rfl, q⟩ := ints_of hq
  exact ho pins s σ H x y v u Q I rx ry ⟨i, j, rel_int r1, rel_int r2, k.here (hg H i j) rh q⟩
def dLt := dI fun i j => .bl (decide (i < j))
def dLe := dI fun i j => .bl (decide (i ≤ j))
def dGt := dI fun i j => .bl (decide (j < i))
def dGe := dI fun i j => .bl (decide (j ≤ i))
def dSub := dI fun i j => .int (i - j)
theorem or_lt : OpD X T (compareOp .Lt) dLt := or_int op_lt fun _ _ _ => mk_bl
theorem or_le : OpD X T (compareOp .LtE) dLe := or_int op_le fun _ _ _ => mk_bl
theorem or_gt : OpD X T (compareOp .Gt) dGt := or_int op_gt fun _ _ _ => mk_bl
theorem or_ge : OpD X T (compareOp .GtE) dGe := or_int op_ge fun _ _ _ => mk_bl
theorem or_sub : OpD X T (binaryOp .Sub) dSub := or_int op_sub fun _ _ _ => mk_int
/-- + -/
def dAdd (x y : D) (h : DHp) (Q : DK) : Prop := match x, y with
  | .int i, .int j => Q (.int (i + j)) h
  | .str a, .str b => a.length + b.length ≤ sizeLine ∧ Q (.str (a ++ b)) h
  | .tup xs, .tup ys => xs.length + ys.length ≤ sizeLine ∧ Q (.tup (xs ++ ys)) h
  | .ref a, .ref b => ∃ xs ys, h a = some (.lst xs) ∧ h b = some (.lst ys) ∧ xs.length + ys.length ≤ sizeLine ∧ ∀ p, h p = none → Q (.ref p) (put h p (.lst (xs ++ ys)))
  | _, _ => False
theorem or_add : OpD X T (binaryOp .Add) dAdd := by
  intro pins s σ H x y v u Q I rx ry hh
  obtain ⟨dx, dy, h, Q', r1, r2, rh, hq, k⟩ := hh
  have fin : ∀ {p : Prop}, (dAdd dx dy h Q' = False) → p := fun e => False.elim (e ▸ hq)
  cases dx <;> cases dy <;> first
    | exact False.elim hq
    | skip
  case int.int i j =>
    exact op_add pins s σ H x y v u Q I rx ry ⟨i, j, rel_int r1, rel_int r2, k.here mk_int rh hq⟩
  case str.str a b =>
    obtain ⟨z, q⟩ := hq
    exact op_add_str pins s σ H x y v u Q I rx ry ⟨_, _, rel_str r1, rel_str r2, by rw [tx_len, tx_len]; exact z, by rw [tx_app]; exact k.here mk_str rh q⟩
  case ref.ref a b =>
    obtain ⟨xs, ys, e1, e2, z, q⟩ := hq
    obtain ⟨vx, a1, b1⟩ := rh.at_ _ _ e1
    obtain ⟨vy, a2, b2⟩ := rh.at_ _ _ e2
    refine op_cat pins s σ H x y v u Q I rx ry ⟨a, b, vx, vy, rel_ref r1, rel_ref r2, a1, a2, by rw [b1.length, b2.length]; exact z, fun p n => ?_⟩
    obtain ⟨rh2, x2⟩ := RelH.newList rh n (b1.append b2)
    exact k _ _ _ _ x2 mk_ref rh2 (q p (rh.fresh n))
  case tup.tup xs ys =>
    obtain ⟨z, q⟩ := hq
    obtain ⟨a, vx, ea, t1, b1⟩ := rel_tup r1
    obtain ⟨b, vy, eb, t2, b2⟩ := rel_tup r2
    refine op_catA pins s σ H x y v u Q I rx ry ⟨a, b, vx, vy, ea, eb, t1.sqt, t2.sqt, by rw [b1.length, b2.length]; exact z, fun e => ?_, fun _ e => ?_, fun _ _ p n => ?_⟩
    · subst e
      cases xs with
      | nil => exact k.here (mk_tup t2 b2) rh q
      | cons _ _ => have := b1.length; simp at this
    · subst e
      cases ys with
      | nil => rw [List.append_nil] at q; exact k.here (mk_tup t1 b1) rh q
      | cons _ _ => have := b2.length; simp at this
    · obtain ⟨rh2, x2⟩ := rh.hid (u := .tup (vx ++ vy)) n
      exact k _ _ _ _ x2 (mk_tup (.inl upd_same) (Reps.keep (keeps_new n) _ _ (b1.append b2))) rh2 q
/-- % by a positive number, // by a positive small one, ** -/
def dMod (x y : D) (h : DHp) (Q : DK) : Prop := match x, y with
  | .int i, .int j => 0 < j ∧ Q (.int (i % j)) h
  | _, _ => False
theorem or_mod : OpD X T (binaryOp .Mod) dMod := by
  intro pins s σ H x y v u Q I rx ry hh
  obtain ⟨dx, dy, h, Q', r1, r2, rh, hq, k⟩ := hh
  cases dx <;> cases dy <;> first
    | exact False.elim hq
    | skip
  case int.int i j => exact op_mod pins s σ H x y v u Q I rx ry ⟨i, j, rel_int r1, rel_int r2, hq.1, k.here mk_int rh hq.2⟩
def dFdiv (x y : D) (h : DHp) (Q : DK) : Prop := match x, y with
  | .int i, .int j => (0 < j ∧ j < 1073741824) ∧ Q (.int (i / j)) h
  | _, _ => False
theorem or_fdiv : OpD X T (binaryOp .FloorDiv) dFdiv := by
  intro pins s σ H x y v u Q I rx ry hh
  obtain ⟨dx, dy, h, Q', r1, r2, rh, hq, k⟩ := hh
  cases dx <;> cases dy <;> first
    | exact False.elim hq
    | skip
  case int.int i j => exact op_fdiv pins s σ H x y v u Q I rx ry ⟨i, j, rel_int r1, rel_int r2, hq.1, k.here mk_int rh hq.2⟩
def dPow (x y : D) (h : DHp) (Q : DK) : Prop := match x, y with
  | .int i, .int j => (0 ≤ j ∧ j ≤ 1000000 ∧ i.natAbs < 2 ^ 64) ∧ Q (.int (i ^ j.toNat)) h
  | _, _ => False
theorem or_pow : OpD X T (binaryOp .Pow) dPow := by
  intro pins s σ H x y v u Q I rx ry hh
  obtain ⟨dx, dy, h, Q', r1, r2, rh, hq, k⟩ := hh
  cases dx <;> cases dy <;> first
    | exact False.elim hq
    | skip
  case int.int i j => exact op_pow pins s σ H x y v u Q I rx ry ⟨i, j, rel_int r1, rel_int r2, hq.1, k.here mk_int rh hq.2⟩
/-- is None -/
def isNon : D → Bool
  | .non => true
  | _ => false
def dIsN (x y : D) (h : DHp) (Q : DK) : Prop := y = .non ∧ Q (.bl (isNon x)) h
def dNotN (x y : D) (h : DHp) (Q : DK) : Prop := y = .non ∧ Q (.bl (!isNon x)) h
theorem rep_non_iff {K : PySem.W.Frag} {H : Hp} {d : D} {v : V} (r : Rep K H d v) : decide (v = .non) = isNon d := by
  cases d with
  | non => have e := rel_non r; subst e; rfl
  | bl b => have e := rel_bl r; subst e; rfl
  | int b => have e := rel_int r; subst e; rfl
  | str b => have e := rel_str r; subst e; rfl
  | ref b => have e := rel_ref r; subst e; rfl
  | tup ds => obtain ⟨a, _, e, _⟩ := rel_tup r; subst e; rfl
  | ty n => simp only [Rep] at r; subst r; rfl
  | scr n => simp only [Rep] at r; obtain ⟨a, e, _⟩ := r; subst e; rfl
  | fn n => simp only [Rep] at r; subst r; rfl
theorem or_isN : OpD X T (compareOp .Is) dIsN := by
  intro pins s σ H x y v u Q I rx ry hh
  obtain ⟨dx, dy, h, Q', r1, r2, rh, ⟨e, q⟩, k⟩ := hh
  subst e
  exact op_isN pins s σ H x y v u Q I rx ry ⟨rel_non r2, by rw [rep_non_iff r1]; exact k.here mk_bl rh q⟩
theorem or_notN : OpD X T (compareOp .IsNot) dNotN := by
  intro pins s σ H x y v u Q I rx ry hh
  obtain ⟨dx, dy, h, Q', r1, r2, rh, ⟨e, q⟩, k⟩ := hh
  subst e
  refine op_notN pins s σ H x y v u Q I rx ry ⟨rel_non r2, ?_⟩
  rw [rep_non_iff r1]
  exact k.here mk_bl rh q
end
end Tw
/-! Rules over data: statements. -/
namespace Tw
open PySem PySem.Spec PyProof.Rows L2
structure DEnds where
  nx : DSt → DHp → Prop
  rt : DK
  bk : DSt → DHp → Prop := fun _ _ => False
  ct : DSt → DHp → Prop := fun _ _ => False
  ex : Ex → DSt → DHp → Prop := fun _ _ _ => False
abbrev MS := DEnds → DSt → DHp → Prop
/-- what comes of data is what comes of values, behind a statement -/
def BkN (c : Cn) (h : DHp) (H : Hp) (N : DSt → DHp → Prop) (M : L2.St → Hp → Prop) : Prop := ∀ σ' δ' H' h', Ext h h' H H' → RelS c H' δ' σ' → RelH c H' h' → N δ' h' → M σ' H'
def BkE (c : Cn) (h : DHp) (H : Hp) (E' : Ex → DSt → DHp → Prop) (W : WX) : Prop := ∀ C σ' δ' H' h', Ext h h' H H' → RelS c H' δ' σ' → RelH c H' h' → E' C δ' h' → W (.ref (c.T.ec C)) none σ' H'
structure BkS (c : Cn) (h : DHp) (H : Hp) (W : WX) (DD : DEnds) (D : Ends) : Prop where
  nx : BkN c h H DD.nx D.nx
  rt : Bk c h H DD.rt D.rt
  bk : BkN c h H DD.bk D.bk
  ct : BkN c h H DD.ct D.ct
  ex : BkE c h H DD.ex W
def upS (c : Cn) (W : WX) (m : MS) : TS := fun D σ H => ∃ δ h DD, RelS c H δ σ ∧ RelH c H h ∧ m DD δ h ∧ BkS c h H W DD D
abbrev DS (X : Cx) (T : Tb) (W : WX) (st : Stmt) (m : MS) : Prop := PS X st (upS (cn X T) W m)
abbrev DSs (X : Cx) (T : Tb) (W : WX) (st : List Stmt) (m : MS) : Prop := PSs X st (upS (cn X T) W m)
theorem ps_imp {X : Cx} {st : Stmt} {t u : TS} (h : PS X st t) (i : ∀ D σ H, u D σ H → t D σ H) : PS X st u := ⟨fun pins s σ H D I q => h.run pins s σ H D I (i D σ H q)⟩
theorem pss_imp {X : Cx} {st : List Stmt} {t u : TS} (h : PSs X st t) (i : ∀ D σ H, u D σ H → t D σ H) : PSs X st u := ⟨fun pins s σ H D I q => h.run pins s σ H D I (i D σ H q)⟩
section
variable {c : Cn} {h h1 : DHp} {H H1 : Hp} {W : WX} {DD : DEnds} {D : Ends} {N : DSt → DHp → Prop} {M : L2.St → Hp → Prop} {E' : Ex → DSt → DHp → Prop}
theorem BkN.after (k : BkN c h H N M) (x : Ext h h1 H H1) : BkN c h1 H1 N M := fun σ' δ' H' h' x' rs rh q => k σ' δ' H' h' (x.trans x') rs rh q
theorem BkE.after (k : BkE c h H E' W) (x : Ext h h1 H H1) : BkE c h1 H1 E' W := fun C σ' δ' H' h' x' rs rh q => k C σ' δ' H' h' (x.trans x') rs rh q
theorem BkS.after (k : BkS c h H W DD D) (x : Ext h h1 H H1) : BkS c h1 H1 W DD D := ⟨k.nx.after x, k.rt.after x, k.bk.after x, k.ct.after x, k.ex.after x⟩
/-- an expression's exceptions within a statement -/
def exE (E' : Ex → DSt → DHp → Prop) (δ : DSt) : DX := fun C h => E' C δ h
theorem BkE.expr (k : BkE c h H E' W) {δ : DSt} {σ : L2.St} (rs : RelS c H δ σ) (rh : RelH c H h) : BkX c h H (exE E' δ) W σ := fun C H' h' x rh' q => k C σ δ H' h' x (rs.keep (x.keeps rh)) rh' q
end

section
variable {X : Cx} {T : Tb} {W : WX} {e : Expr} {st : Stmt} {rest : List Stmt} {m : ME} {t u : MS} {pos : Pos}
def dNext : MS := fun D δ h => D.nx δ h
def dSeq (t u : MS) : MS := fun D δ h => t { D with nx := u D } δ h
theorem ds_nil : DSs X T W [] dNext := by
  refine pss_imp pss_nil ?_
  rintro D σ H ⟨δ, h, DD, rs, rh, q, k⟩
  exact k.nx σ δ H h Ext.refl rs rh q
theorem ds_cons (h1 : DS X T W st t) (h2 : DSs X T W rest u) : DSs X T W (st :: rest) (dSeq t u) := by
  refine pss_imp (pss_cons h1 h2) ?_
  rintro D σ H ⟨δ, h, DD, rs, rh, q, k⟩
  refine ⟨δ, h, _, rs, rh, q, ?_, k.rt, k.bk, k.ct, k.ex⟩
  exact fun σ' δ' H' h' x' rs' rh' q' => ⟨δ', h', DD, rs', rh', q', k.after x'⟩
theorem ds_one (h1 : DS X T W st t) : DSs X T W [st] t := pss_one h1
theorem ds_pass : DS X T W (.Pass pos) dNext := by
  refine ps_imp ps_pass ?_
  rintro D σ H ⟨δ, h, DD, rs, rh, q, k⟩
  exact k.nx σ δ H h Ext.refl rs rh q
def dBreak : MS := fun D δ h => D.bk δ h
theorem ds_break : DS X T W (.Break pos) dBreak := by
  refine ps_imp ps_break ?_
  rintro D σ H ⟨δ, h, DD, rs, rh, q, k⟩
  exact k.bk σ δ H h Ext.refl rs rh q
def dDrop (m : ME) : MS := fun D δ h => m δ h (fun _ h1 => D.nx δ h1) (exE D.ex δ)
theorem ds_expr (he : DE X T W e m) (hs : swapsWith e none pos.line X.env = pure false := by rfl) : DS X T W (.Expr e pos) (dDrop m) := by
  refine ps_imp (ps_expr he hs) ?_
  rintro D σ H ⟨δ, h, DD, rs, rh, q, k⟩
  exact ⟨δ, h, _, _, rs, rh, q, fun v d H1 h1 x1 r1 rh1 q1 => k.nx σ δ H1 h1 x1 (rs.keep (x1.keeps rh)) rh1 q1, k.ex.expr rs rh⟩
def dRet (m : ME) : MS := fun D δ h => m δ h D.rt (exE D.ex δ)
theorem ds_ret (he : DE X T W e m) : DS X T W (.Return (some e) pos) (dRet m) := by
  refine ps_imp (ps_ret he) ?_
  rintro D σ H ⟨δ, h, DD, rs, rh, q, k⟩
  exact ⟨δ, h, _, _, rs, rh, q, k.rt, k.ex.expr rs rh⟩
def dRetN : MS := fun D _ h => D.rt .non h
theorem ds_retN : DS X T W (.Return none pos) dRetN := by
  refine ps_imp ps_retN ?_
  rintro D σ H ⟨δ, h, DD, rs, rh, q, k⟩
  exact k.rt.here mk_non rh q
def dIfS (p : MT) (t u : MS) : MS := fun D δ h => p δ h (fun b h1 => (b = true → t D δ h1) ∧ (b = false → u D δ h1)) (exE D.ex δ)
theorem ds_if {p : MT} {a b : List Stmt} (hc : DT X T W e p) (ha : DSs X T W a t) (hb : DSs X T W b u) : DS X T W (.If e a b pos) (dIfS p t u) := by
  refine ps_imp (ps_if hc ha hb) ?_
  rintro D σ H ⟨δ, h, DD, rs, rh, q, k⟩
  refine ⟨δ, h, _, _, rs, rh, q, fun b H1 h1 x1 rh1 q1 => ?_, k.ex.expr rs rh⟩
  cases b with
  | true => exact ⟨δ, h1, DD, rs.keep (x1.keeps rh), rh1, q1.1 rfl, k.after x1⟩
  | false => exact ⟨δ, h1, DD, rs.keep (x1.keeps rh), rh1, q1.2 rfl, k.after x1⟩
end

/-! ### targets -/
abbrev MG := D → DSt → DHp → (DSt → DHp → Prop) → Prop
abbrev MGs := List D → DSt → DHp → (DSt → DHp → Prop) → Prop
def upG (c : Cn) (m : MG) : TG := fun v σ H Q => ∃ d δ h Q', Rep c.K H d v ∧ RelS c H δ σ ∧ RelH c H h ∧ m d δ h Q' ∧ BkN c h H Q' Q
def upGs (c : Cn) (m : MGs) : TGs := fun vs σ H Q => ∃ ds δ h Q', Reps c.K H ds vs ∧ RelS c H δ σ ∧ RelH c H h ∧ m ds δ h Q' ∧ BkN c h H Q' Q
abbrev DG (X : Cx) (T : Tb) (e : Expr) (m : MG) : Prop := PG X e (upG (cn X T) m)
abbrev DGs (X : Cx) (T : Tb) (es : List Expr) (m : MGs) : Prop := PGs X es (upGs (cn X T) m)
theorem pg_imp {X : Cx} {e : Expr} {t u : TG} (h : PG X e t) (i : ∀ v σ H Q, u v σ H Q → t v σ H Q) : PG X e u := ⟨fun pins s σ H v w Q I r q => h.run pins s σ H v w Q I r (i v σ H Q q)⟩
theorem pgs_imp {X : Cx} {e : List Expr} {t u : TGs} (h : PGs X e t) (i : ∀ v σ H Q, u v σ H Q → t v σ H Q) : PGs X e u := ⟨fun pins s σ H v w Q I r q => h.run pins s σ H v w Q I r (i v σ H Q q)⟩
theorem RelS.set {c : Cn} {H : Hp} {δ : DSt} {σ : L2.St} (r : RelS c H δ σ) (i : Nat) {d : D} {v : V} (rd : Rep c.K H d v) : RelS c H (δ.set i (some d)) (σ.set i (some v)) := by
  refine ⟨by simp [r.1], fun j d' e => ?_⟩
  by_cases q : j = i
  · subst q
    by_cases hl : j < δ.length
    · rw [List.getElem?_set_self hl] at e
      cases e
      exact ⟨v, by rw [List.getElem?_set_self (by rw [← r.1]; exact hl)], rd⟩
    · rw [List.getElem?_eq_none (by simpa using hl)] at e
      cases e
  · rw [List.getElem?_set_ne (Ne.symm q)] at e
    obtain ⟨w, e1, e2⟩ := r.2 j d' e
    exact ⟨w, by rw [List.getElem?_set_ne (Ne.symm q)]; exact e1, e2⟩
section
variable {X : Cx} {T : Tb} {W : WX} {pos : Pos}
def dName (i : Nat) : MG := fun d δ h Q => Q (δ.set i (some d)) h
theorem dg_name {i : Nat} {x : Str} (hN : X.N.Nodup) (hi : X.N[i]? = some x) (hx : Loc X.env.scope x) (hf : X.fn x = true ∨ X.env.scope.names.lookup x = some .local := by first | exact .inl rfl | exact .inr rfl | assumption) : DG X T (.Name x pos) (dName i) := by
  refine pg_imp (pg_name hN hi hx hf) ?_
  rintro v σ H Q ⟨d, δ, h, Q', rd, rs, rh, q, k⟩
  exact k _ _ H h Ext.refl (rs.set i rd) rh q
def dgNil : MGs := fun ds δ h Q => ds = [] ∧ Q δ h
def dgCons (m : MG) (ms : MGs) : MGs := fun ds δ h Q => match ds with | d :: r => m d δ h (fun δ1 h1 => ms r δ1 h1 Q) | [] => False
theorem dgs_nil : DGs X T [] dgNil := by
  refine pgs_imp pgs_nil ?_
  rintro v σ H Q ⟨ds, δ, h, Q', rd, rs, rh, ⟨e, q⟩, k⟩
  subst e
  simp only [Reps] at rd
  exact ⟨rd, k _ _ H h Ext.refl rs rh q⟩
theorem dgs_cons {e : Expr} {es : List Expr} {m : MG} {ms : MGs} (h1 : DG X T e m) (h2 : DGs X T es ms) (hs : (assignEach (e :: es) X.env).map (·.2) = assign e X.env :: (assignEach es X.env).map (·.2) := by rfl) : DGs X T (e :: es) (dgCons m ms) := by
  refine pgs_imp (pgs_cons h1 h2 hs) ?_
  rintro v σ H Q ⟨ds, δ, h, Q', rd, rs, rh, q, k⟩
  cases ds with
  | nil => exact False.elim q
  | cons d r =>
    simp only [Reps] at rd
    obtain ⟨x, z, e1, r1, r2⟩ := rd
    refine ⟨x, z, e1, d, δ, h, _, r1, rs, rh, q, fun σ1 δ1 H1 h1' x1 rs1 rh1 q1 => ?_⟩
    exact ⟨r, δ1, h1', Q', Reps.keep (x1.keeps rh) _ _ r2, rs1, rh1, q1, k.after x1⟩
/-- a tuple, a list of that length -/
def dgTup (n : Nat) (ms : MGs) : MG := fun d δ h Q => match d with
  | .tup ds => ds.length = n ∧ ms ds δ h Q
  | .ref a => (match h a with
    | some (.lst ds) => ds.length = n ∧ ms ds δ h Q
    | _ => False)
  | _ => False
theorem dg_tup {es : List Expr} {k : Nat} {ms : MGs} {n : Nat} (hc : X.calm = true) (h : DGs X T es ms)
    (hn : (assignEach es X.env).length = n := by rfl) (hst : (assignEach es X.env).findIdx? (·.1) = none := by rfl) : DG X T (.Tuple es k pos) (dgTup n ms) := by
  refine ⟨fun pins s σ H v u Q I rv hw => ?_⟩
  obtain ⟨d, δ, h', Q', rd, rs, rh, q, k⟩ := hw
  cases d with
  | tup ds =>
    obtain ⟨hl, q⟩ := q
    obtain ⟨a, xs, e, t, r⟩ := rel_tup rd
    exact (pg_tup hc h hn hst).run pins s σ H v u Q I rv ⟨a, xs, e, t.sqt, by rw [r.length]; exact hl, ds, δ, h', Q', r, rs, rh, q, k⟩
  | ref a =>
    cases e0 : h' a with
    | none => simp [dgTup, e0] at q
    | some o =>
      cases o with
      | lst ds =>
        simp only [dgTup, e0] at q
        obtain ⟨hl, q⟩ := q
        obtain ⟨xs, e1, e2⟩ := rh.at_ _ _ e0
        exact (pg_unl hc h hn hst).run pins s σ H v u Q I rv ⟨a, xs, rel_ref rd, .inl (.inl e1), by rw [e2.length]; exact hl, ds, δ, h', Q', e2, rs, rh, q, k⟩
      | _ => simp [dgTup, e0] at q
  | _ => exact False.elim q

/-! ### assignments -/
def dAsg (m : ME) (g : MG) : MS := fun D δ h => m δ h (fun d h1 => g d δ h1 D.nx) (exE D.ex δ)
theorem up_asg {m : ME} {g : MG} : ∀ D σ H, upS (cn X T) W (dAsg m g) D σ H → tAsg (up (cn X T) W m) (upG (cn X T) g) D σ H := by
  rintro D σ H ⟨δ, h, DD, rs, rh, q, k⟩
  exact ⟨δ, h, _, _, rs, rh, q, fun v d H1 h1 x1 r1 rh1 q1 => ⟨d, δ, h1, _, r1, rs.keep (x1.keeps rh), rh1, q1, k.nx.after x1⟩, k.ex.expr rs rh⟩
theorem ds_asg {tg e : Expr} {m : ME} {g : MG} (he : DE X T W e m) (hg : DG X T tg g) (hs : swapsWithSole [tg] e pos.line X.env = pure false := by rfl) (hw : swappedStores [tg] e X.env = pure none := by rfl)
    (h1 : (assignEach [tg] X.env).map (·.2) = [assign tg X.env] := by rfl) : DS X T W (.Assign [tg] e pos) (dAsg m g) := ps_imp (ps_asg he hg hs hw h1) up_asg
theorem up_name {i : Nat} : ∀ v σ H Q, upG (cn X T) (dName i) v σ H Q → gName i v σ H Q := by
  rintro v σ H Q ⟨d, δ, h, Q', rd, rs, rh, q, k⟩
  exact k _ _ H h Ext.refl (rs.set i rd) rh q
theorem ds_set {i : Nat} {x : Str} {e : Expr} {m : ME} {pos' : Pos} (hN : X.N.Nodup) (hi : X.N[i]? = some x) (hx : Loc X.env.scope x) (he : DE X T W e m) (hs : swapsWith e (some (.Name x pos')) pos.line X.env = pure false := by rfl) (hf : X.fn x = true ∨ X.env.scope.names.lookup x = some .local := by first | exact .inl rfl | exact .inr rfl | assumption) :
    DS X T W (.Assign [.Name x pos'] e pos) (dAsg m (dName i)) := by
  refine ps_imp (ps_set hN hi hx he hs hf) ?_
  rintro D σ H ⟨δ, h, DD, rs, rh, q, k⟩
  refine ⟨δ, h, _, _, rs, rh, q, fun v d H1 h1 x1 r1 rh1 q1 => ?_, k.ex.expr rs rh⟩
  exact k.nx _ _ H1 h1 x1 ((rs.keep (x1.keeps rh)).set i r1) rh1 q1
/-- a, b = x, y and a, b, c = x, y, z: stored from the right -/
def dPar (i j : Nat) (ms : MA) : MS := fun D δ h => ms δ h (fun ds h1 => match ds with | [a, b] => D.nx ((δ.set i (some a)).set j (some b)) h1 | _ => False) (exE D.ex δ)
theorem ds_par {i j : Nat} {x y : Str} {a b : Expr} {ms : MA} {px py pt : Pos} {kt k2 pt2} (hc : X.calm = true) (hN : X.N.Nodup) (hi : X.N[i]? = some x) (hj : X.N[j]? = some y) (hij : i ≠ j)
    (hx : X.env.scope.names.lookup x = some .local) (hy : X.env.scope.names.lookup y = some .local) (ha : DA X T W [a, b] ms)
    (hw : swappedStores [.Tuple [.Name x px, .Name y py] kt pt] (.Tuple [a, b] k2 pt2) X.env = pure (some [x, y]))
    (hs : swapsWithSole [.Tuple [.Name x px, .Name y py] kt pt] (.Tuple [a, b] k2 pt2) pos.line X.env = pure false := by rfl) :
    DS X T W (.Assign [.Tuple [.Name x px, .Name y py] kt pt] (.Tuple [a, b] k2 pt2) pos) (dPar i j ms) := by
  have z := ps_par (X := X) (i := i) (j := j) (x := x) (y := y) (a := a) (b := b) (px := px) (py := py) (pt := pt) (kt := kt) (k2 := k2) (pt2 := pt2) (pos := pos) hc hN hi hj hij hx hy ha hw hs
  refine ps_imp z ?_
  rintro Z σ H ⟨δ, h, DD, rs, rh, q, k⟩
  unfold dPar at q
  unfold tPar
  have fin : ∀ (vs : List V) (ds : List D) (H1 : Hp) (h1 : DHp), Ext h h1 H H1 → Reps X.K H1 ds vs → RelH (cn X T) H1 h1 → (match ds with | [a, b] => DD.nx ((δ.set i (some a)).set j (some b)) h1 | _ => False) → ∃ u v, vs = [u, v] ∧ Z.nx ((σ.set i (some u)).set j (some v)) H1 := by
    intro vs ds H1 h1 x1 r1 rh1 q1
    match ds, q1, r1 with
    | [d1, d2], q1, r1 =>
      simp only [Reps] at r1
      obtain ⟨v1, z1, e1, p1, v2, z2, e2, p2, e3⟩ := r1
      subst e3 e2 e1
      exact ⟨v1, v2, rfl, k.nx _ _ H1 h1 x1 (((rs.keep (x1.keeps rh)).set i p1).set j p2) rh1 q1⟩
  exact ⟨δ, h, _, _, rs, rh, q, fin, k.ex.expr rs rh⟩
def dPar3 (i j l : Nat) (ms : MA) : MS := fun D δ h => ms δ h (fun ds h1 => match ds with | [a, b, c] => D.nx (((δ.set i (some a)).set j (some b)).set l (some c)) h1 | _ => False) (exE D.ex δ)
theorem ds_par3 {i j l : Nat} {x y z : Str} {a b c : Expr} {ms : MA} {px py pz pt : Pos} {kt k2 pt2} (hc : X.calm = true) (hN : X.N.Nodup) (hi : X.N[i]? = some x) (hj : X.N[j]? = some y) (hl : X.N[l]? = some z) (hij : i ≠ j) (hil : i ≠ l) (hjl : j ≠ l)
    (hx : X.env.scope.names.lookup x = some .local) (hy : X.env.scope.names.lookup y = some .local) (hz : X.env.scope.names.lookup z = some .local) (ha : DA X T W [a, b, c] ms)
    (hw : swappedStores [.Tuple [.Name x px, .Name y py, .Name z pz] kt pt] (.Tuple [a, b, c] k2 pt2) X.env = pure (some [x, y, z]))
    (hs : swapsWithSole [.Tuple [.Name x px, .Name y py, .Name z pz] kt pt] (.Tuple [a, b, c] k2 pt2) pos.line X.env = pure false := by rfl) :
    DS X T W (.Assign [.Tuple [.Name x px, .Name y py, .Name z pz] kt pt] (.Tuple [a, b, c] k2 pt2) pos) (dPar3 i j l ms) := by
  have zz := ps_par3 (X := X) (i := i) (j := j) (l := l) (x := x) (y := y) (z := z) (a := a) (b := b) (c := c) (px := px) (py := py) (pz := pz) (pt := pt) (kt := kt) (k2 := k2) (pt2 := pt2) (pos := pos) hc hN hi hj hl hij hil hjl hx hy hz ha hw hs
  refine ps_imp zz ?_
  rintro Z σ H ⟨δ, h, DD, rs, rh, q, k⟩
  unfold dPar3 at q
  unfold tPar3
  have fin : ∀ (vs : List V) (ds : List D) (H1 : Hp) (h1 : DHp), Ext h h1 H H1 → Reps X.K H1 ds vs → RelH (cn X T) H1 h1 → (match ds with | [a, b, c] => DD.nx (((δ.set i (some a)).set j (some b)).set l (some c)) h1 | _ => False) → ∃ u v w, vs = [u, v, w] ∧ Z.nx (((σ.set i (some u)).set j (some v)).set l (some w)) H1 := by
    intro vs ds H1 h1 x1 r1 rh1 q1
    match ds, q1, r1 with
    | [d1, d2, d3], q1, r1 =>
      simp only [Reps] at r1
      obtain ⟨v1, z1, e1, p1, v2, z2, e2, p2, v3, z3, e3, p3, e4⟩ := r1
      subst e4 e3 e2 e1
      exact ⟨v1, v2, v3, rfl, k.nx _ _ H1 h1 x1 ((((rs.keep (x1.keeps rh)).set i p1).set j p2).set l p3) rh1 q1⟩
  exact ⟨δ, h, _, _, rs, rh, q, fin, k.ex.expr rs rh⟩
end

/-! ### while -/
section
variable {X : Cx} {T : Tb} {W : WX} {pos : Pos}
def dWhile (p : MT) (t : MS) : MS := fun D δ h => ∃ V : Nat → DSt → DHp → Prop, (∃ m, V m δ h) ∧ ∀ m δ h, V m δ h →
  p δ h (fun b h1 => (b = true → t { D with nx := fun δ' h' => ∃ m', m' < m ∧ V m' δ' h', ct := fun δ' h' => ∃ m', m' < m ∧ V m' δ' h', bk := D.nx } δ h1) ∧
    (b = false → D.nx δ h1)) (exE D.ex δ)
theorem ds_while {e : Expr} {body : List Stmt} {p : MT} {t : MS} (hp : PassesOwn (model X.prog X.w) X.A X.env X.xe) (hc : DT X T W e p) (hb : DSs X T W body t) : DS X T W (.While e body [] pos) (dWhile p t) := by
  refine ps_imp (ps_while hp hc hb) ?_
  rintro D σ H ⟨δ, h, DD, rs, rh, ⟨V, ⟨m, v0⟩, turn⟩, k⟩
  refine ⟨fun m σ' H' => ∃ δ' h', Ext h h' H H' ∧ RelS (cn X T) H' δ' σ' ∧ RelH (cn X T) H' h' ∧ V m δ' h', ⟨m, δ, h, Ext.refl, rs, rh, v0⟩, ?_⟩
  rintro m1 σ1 H1 ⟨δ1, h1, x1, rs1, rh1, v1⟩
  refine ⟨δ1, h1, _, _, rs1, rh1, turn m1 δ1 h1 v1, fun b H2 h2 x2 rh2 q2 => ?_, (k.ex.after x1).expr rs1 rh1⟩
  cases b with
  | false => exact k.nx _ _ _ _ (x1.trans x2) (rs1.keep (x2.keeps rh1)) rh2 (q2.2 rfl)
  | true =>
    refine ⟨fun σ' H' => ∃ m', m' < m1 ∧ ∃ δ' h', Ext h h' H H' ∧ RelS (cn X T) H' δ' σ' ∧ RelH (cn X T) H' h' ∧ V m' δ' h', fun σ' H' q => q, δ1, h2, _, rs1.keep (x2.keeps rh1), rh2, q2.1 rfl, ?_, (k.rt.after (x1.trans x2)), (k.nx.after (x1.trans x2)), ?_, (k.ex.after (x1.trans x2))⟩
    · exact fun σ3 δ3 H3 h3 x3 rs3 rh3 ⟨m', hm, v3⟩ => ⟨m', hm, δ3, h3, (x1.trans x2).trans x3, rs3, rh3, v3⟩
    · exact fun σ3 δ3 H3 h3 x3 rs3 rh3 ⟨m', hm, v3⟩ => ⟨m', hm, δ3, h3, (x1.trans x2).trans x3, rs3, rh3, v3⟩
end
end Tw
/-! Rules over data: defs and their calls, loops, comprehensions. -/
namespace Tw
open PySem PySem.Spec PyProof.Rows L2
/-- a def's promise over data -/
abbrev SpD := List D → DHp → DK → DX → Prop
def BkK (c : Cn) (h : DHp) (H : Hp) (E' : DX) (E : XK) : Prop := ∀ C H' h', Ext h h' H H' → RelH c H' h' → E' C h' → E (.ref (c.T.ec C)) none H'
def lift (c : Cn) (n : Nat) (sp : SpD) : Sp := fun vs H Q E => ∃ ds h Q' E', ds.length = n ∧ Reps c.K H ds vs ∧ RelH c H h ∧ sp ds h Q' E' ∧ Bk c h H Q' Q ∧ BkK c h H E' E
def dCall (n : Nat) (sp : SpD) (ms : MA) : ME := fun δ h Q E => ms δ h (fun ds h1 => ds.length = n ∧ sp ds h1 Q E) E
section
variable {X : Cx} {T : Tb} {W : WX} {k n : Nat} {f : Addr} {fd : FuncData} {ps : List Str} {sp : SpD} {x : Str} {p pos : Pos} {e : Expr} {es : List Expr} {ms : MA}
theorem de_call (F : FnOk X.prog X.w X.K X.mg X.base (L2.CX X.prog X.w) k f fd ps (lift (cn X T) n sp)) (hr : Room k X.A) (hg : Gl X x) (hm : X.mg x = some (.ref f)) (hk : PySem.W.keepIn X.K (.ref f) = true) (hb : Binds X.K fd ps []) (tk : Takes X W)
    (ha : DA X T W (e :: es) ms) (hdb : (x == ("__debug__" : Str)) = false := by decide) (he : starEach (e :: es) X.env = (false, eval e X.env) :: starEach es X.env := by rfl) (hpl : (backTo pos (starEach es X.env)).any (·.1) = false := by rfl) :
    DE X T W (.Call (.Name x p) (e :: es) [] pos) (dCall n sp ms) := by
  refine pe_imp (pe_callSD (p := p) (pos := pos) (E := WE W) F hr hg hm hk hb .nil (passAt tk) ha hdb he hpl) ?_
  rintro σ H Q ⟨δ, h, Q', E', rs, rh, q, k, kx⟩
  refine ⟨δ, h, _, _, rs, rh, q, fun vs ds H1 h1 x1 r1 rh1 q1 => ?_, kx⟩
  show lift (cn X T) n sp (vs ++ []) H1 Q (WE W σ)
  rw [List.append_nil]
  exact ⟨ds, h1, Q', E', q1.1, r1, rh1, q1.2, k.after x1, fun C H' h' x' rh' q' => kx C H' h' (x1.trans x') rh' q'⟩
end
/-- at a def's end D may forget what it sees -/
def Less (g h : DHp) : Prop := ∀ a o, g a = some o → h a = some o
theorem Less.refl {h : DHp} : Less h h := fun _ _ e => e
theorem Less.trans {a b c : DHp} (h : Less a b) (g : Less b c) : Less a c := fun x o e => g x o (h x o e)
theorem Less.put {h : DHp} {p : Addr} {o : DO} (n : h p = none) : Less h (put h p o) := fun a u e => by
  by_cases q : a = p
  · subst q; rw [n] at e; cases e
  · rw [put_ne q]; exact e
def Fgt (Q : DK) : DK := fun v h => ∃ g, Less g h ∧ Q v g
def endsD (Q : DK) (E : DX) : DEnds := { nx := fun _ h => Fgt Q .non h, rt := Fgt Q, ex := fun C _ h => ∃ g, Less g h ∧ E C g }
theorem Ext.forget {h h' g : DHp} {H H' : Hp} (x : Ext h h' H H') (l : Less g h') : Ext h g H H' := fun a o n e nt => by
  obtain ⟨e1, n1⟩ := x a o n e nt
  refine ⟨e1, ?_⟩
  cases q : g a with
  | none => rfl
  | some u => rw [l a u q] at n1; cases n1
theorem ends_bk {c : Cn} {h : DHp} {H : Hp} {Q' : DK} {Q : VK} {E' : DX} {E : XK} (k1 : Bk c h H Q' Q) (k2 : BkK c h H E' E) : BkS c h H (fun cls d _ H => E cls d H) (endsD Q' E') { nx := fun _ H' => Q .non H', rt := Q } :=
  ⟨fun σ' δ' H' h' x' rs' rh' ⟨g, l, q'⟩ => k1 _ _ _ _ (x'.forget l) mk_non (rh'.less l) q', fun v d H' h' x' r rh' ⟨g, l, q'⟩ => k1 _ _ _ _ (x'.forget l) r (rh'.less l) q', fun _ _ _ _ _ _ _ z => z, fun _ _ _ _ _ _ _ z => z, fun C σ' δ' H' h' x' rs' rh' ⟨g, l, q'⟩ => k2 C H' g (x'.forget l) (rh'.less l) q'⟩
/-- a def keeps its promise -/
def startD (N : List Str) (ds : List D) : DSt := ds.map some ++ List.replicate (N.length - ds.length) none
theorem start_rel {c : Cn} {H : Hp} {N : List Str} {ds : List D} {vs : List V} (r : Reps c.K H ds vs) : RelS c H (startD N ds) (L2.start N vs) := by
  have hl := r.length
  refine ⟨by simp [startD, L2.start, hl], fun i d e => ?_⟩
  unfold startD at e
  by_cases hi : i < ds.length
  · rw [List.getElem?_append_left (by simpa using hi), List.getElem?_map] at e
    cases q : ds[i]? with
    | none => rw [q] at e; cases e
    | some d' =>
      rw [q] at e
      cases e
      obtain ⟨v, e1, e2⟩ := r.get q
      refine ⟨v, ?_, e2⟩
      unfold L2.start
      rw [List.getElem?_append_left (by simpa [hl] using hi), List.getElem?_map, e1]
      rfl
  · rw [List.getElem?_append_right (by simpa using hi)] at e
    have := List.mem_of_getElem? e
    have q := List.eq_of_mem_replicate this
    cases q
section
variable {P : Program} {w : World} {K : PySem.W.Frag} {mg : Str → Option Value} {base : Heap} {x qual : Str} {params : Arguments} {body : List Stmt} {scope : Scope} {f : Addr} {fd : FuncData} {N ps : List Str} {k : Nat} {sp : SpD} {T : Tb}
theorem fnD (F : FunD K x qual params body scope [] [] f fd) (S : FnScope N ps scope)
    (hbody : ∀ (cdv : Value) (A : Around) (outer : List Env) (s : Shared) (H : Hp) (E : XK), Room k (A.deeper (envOfC qual scope s.heap.objs.size f cdv)) →
      Takes (cxOf (L2.CX P w) P w K mg base N qual scope f cdv A outer s H E) (fun cls d _ H => E cls d H) →
      PassesOwn (model P w) (A.deeper (envOfC qual scope s.heap.objs.size f cdv)) (envOfC qual scope s.heap.objs.size f cdv) (cxOf (L2.CX P w) P w K mg base N qual scope f cdv A outer s H E).xe →
      ∃ m, DSs (cxOf (L2.CX P w) P w K mg base N qual scope f cdv A outer s H E) T (fun cls d _ H => E cls d H) body m ∧
        ∀ ds h Q' E', ds.length = ps.length → sp ds h Q' E' → m (endsD Q' E') (startD N ds) h) :
    FnOk P w K mg base (L2.CX P w) (k + 1) f fd ps (lift ⟨K, w, T⟩ ps.length sp) := by
  refine F.ok S (fun vs H Q E hh => ?_) (fun cdv A outer s H vs Q E hr hh => ?_)
  · obtain ⟨ds, h, Q', E', hn, r, _⟩ := hh
    rw [r.length, hn]
  · obtain ⟨ds, h, Q', E', hn, r, rh, q, k1, k2⟩ := hh
    obtain ⟨m, hm, hq⟩ := hbody cdv A outer s H E hr (takes_of rfl rfl rfl rfl) (passes_of rfl)
    exact ⟨_, hm, startD N ds, h, _, start_rel r, rh, hq ds h Q' E' hn q, ends_bk k1 k2⟩
end

/-! ### what is walked -/
abbrev MI := DSt → DHp → (List D → (DHp → Prop) → DHp → Prop) → DX → Prop
structure ItOk (c : Cn) (H0 : Hp) (J : It) (ds : List D) (ok : DHp → Prop) : Prop where
  go : ∀ i H h, Keeps H0 H → RelH c H h → ok h → i < ds.length → J.go i H
  yld : ∀ i H x H' h d, Keeps H0 H → RelH c H h → ok h → ds[i]? = some d → J.yld i H x H' → Rep c.K H' d x ∧ RelH c H' h ∧ Ext h h H H'
  stop : ∀ H h, Keeps H0 H → RelH c H h → ok h → J.stop ds.length H
def upI (c : Cn) (W : WX) (m : MI) : TI := fun σ H R => ∃ δ h R' E', RelS c H δ σ ∧ RelH c H h ∧ m δ h R' E' ∧ (∀ J ds ok H' h', Ext h h' H H' → RelH c H' h' → ItOk c H' J ds ok → R' ds ok h' → R J H') ∧ BkX c h H E' W σ
abbrev DI (X : Cx) (T : Tb) (W : WX) (tg e : Expr) (m : MI) : Prop := PI X tg e (upI (cn X T) W m)
theorem pi_imp {X : Cx} {tg e : Expr} {t u : TI} (h : PI X tg e t) (i : ∀ σ H R, u σ H R → t σ H R) : PI X tg e u := ⟨fun pins s σ H R I q => h.run pins s σ H R I (i σ H R q)⟩
def dIList (m : ME) : MI := fun δ h R E => m δ h (fun d h1 => match d with | .ref a => ∃ ds, h1 a = some (.lst ds) ∧ R ds (fun h => h a = some (.lst ds)) h1 | _ => False) E
def dITup (m : ME) : MI := fun δ h R E => m δ h (fun d h1 => match d with | .tup ds => R ds (fun _ => True) h1 | _ => False) E
theorem Keeps.refl {H : Hp} : Keeps H H := ⟨fun _ _ e => e, fun _ _ _ e => e⟩
section
variable {X : Cx} {T : Tb} {W : WX} {tg e : Expr} {m : ME}
theorem di_list (he : DE X T W e m) : DI X T W tg e (dIList m) := by
  refine pi_imp (pi_list he) ?_
  rintro σ H R ⟨δ, h, R', E', rs, rh, q, k, kx⟩
  refine ⟨δ, h, _, _, rs, rh, q, fun v d H1 h1 x1 r1 rh1 q1 => ?_, kx⟩
  cases d with
  | ref a =>
    obtain ⟨ds, e1, q1⟩ := q1
    obtain ⟨xs, a1, a2⟩ := rh1.at_ _ _ e1
    refine ⟨a, rel_ref r1, ⟨xs, .inl (.inl a1)⟩, k _ ds _ H1 h1 x1 rh1 ⟨fun i H h _ rh ok hi => ?_, fun i H x H' h d _ rh ok hd y => ?_, fun H h _ rh ok => ?_⟩ q1⟩
    · obtain ⟨ys, b1, b2⟩ := rh.at_ _ _ ok
      have hl := b2.length
      exact ⟨ys, ys[i], .inl (.inl b1), by rw [List.getElem?_eq_getElem (by omega)]⟩
    · obtain ⟨ys, b1, b2⟩ := rh.at_ _ _ ok
      obtain ⟨v, c1, c2⟩ := b2.get hd
      obtain ⟨eH, y2⟩ := y
      subst eH
      have := y2 ys (.inl (.inl b1))
      rw [c1] at this
      cases this
      exact ⟨c2, rh, Ext.refl⟩
    · obtain ⟨ys, b1, b2⟩ := rh.at_ _ _ ok
      exact ⟨ys, .inl (.inl b1), by rw [b2.length]; exact Nat.le_refl _⟩
  | _ => exact False.elim q1
theorem di_tup (he : DE X T W e m) : DI X T W tg e (dITup m) := by
  refine pi_imp (pi_tup he) ?_
  rintro σ H R ⟨δ, h, R', E', rs, rh, q, k, kx⟩
  refine ⟨δ, h, _, _, rs, rh, q, fun v d H1 h1 x1 r1 rh1 q1 => ?_, kx⟩
  cases d with
  | tup ds =>
    obtain ⟨a, xs, e1, t1, a2⟩ := rel_tup r1
    refine ⟨a, e1, ⟨xs, t1.sqt⟩, k _ ds _ H1 h1 x1 rh1 ⟨fun i H h kp rh ok hi => ?_, fun i H x H' h d kp rh ok hd y => ?_, fun H h kp rh ok => ?_⟩ q1⟩
    · have hl := a2.length
      exact ⟨xs, xs[i], (t1.keep kp).sqt, by rw [List.getElem?_eq_getElem (by omega)]⟩
    · obtain ⟨v, c1, c2⟩ := (Reps.keep kp _ _ a2).get hd
      obtain ⟨eH, y2⟩ := y
      subst eH
      have := y2 xs (t1.keep kp).sqt
      rw [c1] at this
      cases this
      exact ⟨c2, rh, Ext.refl⟩
    · exact ⟨xs, (t1.keep kp).sqt, by rw [a2.length]; exact Nat.le_refl _⟩
  | _ => exact False.elim q1
/-- range(j), range(i, j) -/
def rngD (lo : Int) (n : Nat) : List D := (List.range n).map fun (i : Nat) => D.int (lo + (i : Int))
theorem rng_ok {c : Cn} {H0 : Hp} (lo : Int) (n : Nat) : ItOk c H0 (Itr lo n) (rngD lo n) (fun _ => True) := by
  refine ⟨fun i H h _ rh _ hi => by simpa [rngD, Itr] using hi, fun i H x H' h d _ rh _ hd y => ?_, fun H h _ rh _ => by simp [rngD, Itr]⟩
  obtain ⟨eH, ex⟩ := y
  subst eH ex
  unfold rngD at hd
  rw [List.getElem?_map] at hd
  cases q : (List.range n)[i]? with
  | none => rw [q] at hd; cases hd
  | some j =>
    rw [q] at hd
    have : j = i := by
      obtain ⟨h1, h2⟩ := List.getElem?_eq_some_iff.mp q
      simpa using h2.symm
    subst this
    cases hd
    exact ⟨mk_int, rh, Ext.refl⟩
def dIRng1 (ms : MA) : MI := fun δ h R E => ms δ h (fun ds h1 => match ds with | [.int j] => (-(2 ^ 62) ≤ j ∧ j < 2 ^ 62) ∧ R (rngD 0 j.toNat) (fun _ => True) h1 | _ => False) E
def dIRng2 (ms : MA) : MI := fun δ h R E => ms δ h (fun ds h1 => match ds with | [.int i, .int j] => (-(2 ^ 62) ≤ i ∧ i < 2 ^ 62 ∧ -(2 ^ 62) ≤ j ∧ j < 2 ^ 62) ∧ R (rngD i (j - i).toNat) (fun _ => True) h1 | _ => False) E
theorem di_rng1 {a : Expr} {ms : MA} {p pos : Pos} (hg : Gl X "range") (hm : X.mg "range" = none) (ha : DA X T W [a] ms) (hs : starEach [a] X.env = [(false, eval a X.env)] := by rfl) : DI X T W tg (.Call (.Name "range" p) [a] [] pos) (dIRng1 ms) := by
  refine pi_imp (pi_range1 hg hm ha hs) ?_
  rintro σ H R ⟨δ, h, R', E', rs, rh, q, k, kx⟩
  have fin : ∀ (vs : List V) (ds : List D) (H1 : Hp) (h1 : DHp), Ext h h1 H H1 → Reps X.K H1 ds vs → RelH (cn X T) H1 h1 → (match ds with | [.int j] => (-(2 ^ 62) ≤ j ∧ j < 2 ^ 62) ∧ R' (rngD 0 j.toNat) (fun _ => True) h1 | _ => False) → ∃ j : Int, vs = [.int j] ∧ -(2 ^ 62) ≤ j ∧ j < 2 ^ 62 ∧ R (Itr 0 j.toNat) H1 := by
    intro vs ds H1 h1 x1 r1 rh1 q1
    match ds, q1, r1 with
    | [.int j], q1, r1 =>
      simp only [Reps, Rep] at r1
      obtain ⟨v1, z1, e1, p1, e2⟩ := r1
      subst e2 p1 e1
      exact ⟨j, rfl, q1.1.1, q1.1.2, k _ _ _ H1 h1 x1 rh1 (rng_ok 0 _) q1.2⟩
  exact ⟨δ, h, _, _, rs, rh, q, fin, kx⟩
theorem di_rng2 {a b : Expr} {ms : MA} {p pos : Pos} (hg : Gl X "range") (hm : X.mg "range" = none) (ha : DA X T W [a, b] ms) (hs : starEach [a, b] X.env = [(false, eval a X.env), (false, eval b X.env)] := by rfl) (hs2 : starEach [b] X.env = [(false, eval b X.env)] := by rfl) : DI X T W tg (.Call (.Name "range" p) [a, b] [] pos) (dIRng2 ms) := by
  refine pi_imp (pi_range2 hg hm ha hs hs2) ?_
  rintro σ H R ⟨δ, h, R', E', rs, rh, q, k, kx⟩
  have fin : ∀ (vs : List V) (ds : List D) (H1 : Hp) (h1 : DHp), Ext h h1 H H1 → Reps X.K H1 ds vs → RelH (cn X T) H1 h1 → (match ds with | [.int i, .int j] => (-(2 ^ 62) ≤ i ∧ i < 2 ^ 62 ∧ -(2 ^ 62) ≤ j ∧ j < 2 ^ 62) ∧ R' (rngD i (j - i).toNat) (fun _ => True) h1 | _ => False) → ∃ i j : Int, vs = [.int i, .int j] ∧ (-(2 ^ 62) ≤ i ∧ i < 2 ^ 62 ∧ -(2 ^ 62) ≤ j ∧ j < 2 ^ 62) ∧ R (Itr i (j - i).toNat) H1 := by
    intro vs ds H1 h1 x1 r1 rh1 q1
    match ds, q1, r1 with
    | [.int i, .int j], q1, r1 =>
      simp only [Reps, Rep] at r1
      obtain ⟨v1, z1, e1, p1, v2, z2, e2, p2, e3⟩ := r1
      subst e3 p2 e2 p1 e1
      exact ⟨i, j, rfl, q1.1, k _ _ _ H1 h1 x1 rh1 (rng_ok i _) q1.2⟩
  exact ⟨δ, h, _, _, rs, rh, q, fin, kx⟩

/-! ### for -/
def ForB (g : MG) (t : MS) (D : DEnds) (δ : DSt) (ds : List Tw.D) (ok : DHp → Prop) (h1 : DHp) : Prop := ∃ V : Nat → DSt → DHp → Prop, V 0 δ h1 ∧ ∀ i δ h, V i δ h → ok h ∧ (i = ds.length → D.nx δ h) ∧
  ∀ d, ds[i]? = some d → g d δ h (fun δ2 h2 => t { D with nx := V (i + 1), ct := V (i + 1), bk := D.nx } δ2 h2)
def dFor (mi : MI) (g : MG) (t : MS) : MS := fun D δ h => mi δ h (fun ds ok h1 => ForB g t D δ ds ok h1) (exE D.ex δ)
theorem ds_for {body : List Stmt} {mi : MI} {g : MG} {t : MS} {pos : Pos} (hp : PassesOwn (model X.prog X.w) X.A X.env X.xe) (hc : X.calm = true) (hi : DI X T W tg e mi) (hg : DG X T tg g) (hb : DSs X T W body t) (hs : ∀ x, foldedSetIterable e X.env x = pure x := by intro _; rfl) :
    DS X T W (.For tg e body [] pos) (dFor mi g t) := by
  refine ps_imp (ps_for hp hc hi hg hb hs) ?_
  rintro Z σ H ⟨δ, h, DD, rs, rh, q, k⟩
  refine ⟨δ, h, _, _, rs, rh, q, fun J ds ok H1 h1 x1 rh1 io q1 => ?_, k.ex.expr rs rh⟩
  obtain ⟨V, v0, turn⟩ := q1
  refine ⟨fun i mm σ' H' => mm = ds.length - i ∧ i ≤ ds.length ∧ ∃ δ' h', Ext h1 h' H1 H' ∧ RelS (cn X T) H' δ' σ' ∧ RelH (cn X T) H' h' ∧ V i δ' h', ⟨ds.length, rfl, Nat.zero_le _, δ, h1, Ext.refl, rs.keep (x1.keeps rh), rh1, v0⟩, ?_⟩
  rintro i mm σ2 H2 ⟨em, hi2, δ2, h2, x2, rs2, rh2, v2⟩
  obtain ⟨ok2, fin, step⟩ := turn i δ2 h2 v2
  by_cases hlt : i < ds.length
  · refine .inr ⟨io.go i H2 h2 (x2.keeps rh1) rh2 ok2 hlt, fun σ' H' => i + 1 ≤ ds.length ∧ ∃ δ' h', Ext h1 h' H1 H' ∧ RelS (cn X T) H' δ' σ' ∧ RelH (cn X T) H' h' ∧ V (i + 1) δ' h', fun σ' H' q' => ⟨ds.length - (i + 1), by omega, rfl, q'⟩, fun x H3 y => ?_⟩
    have hd : ds[i]? = some ds[i] := List.getElem?_eq_getElem hlt
    obtain ⟨r3, rh3, x3⟩ := io.yld i H2 x H3 h2 _ (x2.keeps rh1) rh2 ok2 hd y
    refine ⟨ds[i], δ2, h2, _, r3, rs2.keep (x3.keeps rh2), rh3, step _ hd, fun σ4 δ4 H4 h4 x4 rs4 rh4 q4 => ?_⟩
    have x14 := x2.trans (x3.trans x4)
    exact ⟨δ4, h4, _, rs4, rh4, q4, fun σ5 δ5 H5 h5 x5 rs5 rh5 q5 => ⟨hlt, δ5, h5, x14.trans x5, rs5, rh5, q5⟩, k.rt.after (x1.trans x14), k.nx.after (x1.trans x14), fun σ5 δ5 H5 h5 x5 rs5 rh5 q5 => ⟨hlt, δ5, h5, x14.trans x5, rs5, rh5, q5⟩, k.ex.after (x1.trans x14)⟩
  · have hi3 : i = ds.length := by omega
    subst hi3
    exact .inl ⟨io.stop H2 h2 (x2.keeps rh1) rh2 ok2, k.nx _ _ _ _ (x1.trans x2) rs2 rh2 (fin rfl)⟩
end
end Tw
/-! Rules over data: list comprehensions. -/
namespace Tw
open PySem PySem.Spec PyProof.Rows L2
/-- a comprehension's target: names by slot, tuples of them -/
inductive Pat where
  | nm (i : Nat) | tup (ps : List Pat)
section
variable (K : PySem.W.Frag)
mutual
def patG : Pat → TG
  | .nm i => gName i
  | .tup ps => gTup K ps.length (patGs ps)
def patGs : List Pat → TGs
  | [] => gNil
  | p :: ps => gCons (patG p) (patGs ps)
end
end
mutual
def patB : Pat → D → DSt → Option DSt
  | .nm i, d, δ => some (δ.set i (some d))
  | .tup ps, d, δ => match d with
    | .tup ds => patBs ps ds δ
    | _ => none
def patBs : List Pat → List D → DSt → Option DSt
  | [], ds, δ => match ds with
    | [] => some δ
    | _ :: _ => none
  | p :: ps, ds, δ => match ds with
    | d :: r => match patB p d δ with
      | some δ1 => patBs ps r δ1
      | none => none
    | [] => none
end
mutual
def patV : Pat → List Nat
  | .nm i => [i]
  | .tup ps => patVs ps
def patVs : List Pat → List Nat
  | [] => []
  | p :: ps => patV p ++ patVs ps
end
def dwipe (δ : DSt) : List Nat → DSt
  | [] => δ
  | v :: vs => (dwipe δ vs).set v none
section
variable {c : Cn} {H : Hp} {δ : DSt} {σ : L2.St}
theorem RelS.clr (r : RelS c H δ σ) (i : Nat) : RelS c H (δ.set i none) (σ.set i none) := by
  refine ⟨by simp [r.1], fun j d' e => ?_⟩
  by_cases q : j = i
  · subst q
    by_cases hl : j < δ.length
    · rw [List.getElem?_set_self hl] at e
      cases e
    · rw [List.getElem?_eq_none (by simpa using hl)] at e
      cases e
  · rw [List.getElem?_set_ne (Ne.symm q)] at e
    obtain ⟨w, e1, e2⟩ := r.2 j d' e
    exact ⟨w, by rw [List.getElem?_set_ne (Ne.symm q)]; exact e1, e2⟩
theorem RelS.wipe (r : RelS c H δ σ) : ∀ vs : List Nat, RelS c H (dwipe δ vs) (L2.wipe σ vs)
  | [] => r
  | v :: vs => (RelS.wipe r vs).clr v
theorem wipe_set (σ : L2.St) (x : Option V) : ∀ (vs : List Nat) {i : Nat}, i ∈ vs → L2.wipe (σ.set i x) vs = L2.wipe σ vs
  | v :: vs, i, h => by
    unfold L2.wipe
    by_cases q : i ∈ vs
    · rw [wipe_set σ x vs q]
    · have e : i = v := by
        rcases List.mem_cons.mp h with e | e
        · exact e
        · exact absurd e q
      subst e
      have : ∀ (vs : List Nat), i ∉ vs → L2.wipe (σ.set i x) vs = (L2.wipe σ vs).set i x := by
        intro vs
        induction vs with
        | nil => intro _; rfl
        | cons w ws ih =>
          intro hn
          rw [List.mem_cons, not_or] at hn
          unfold L2.wipe
          rw [ih hn.2, List.set_comm _ _ hn.1]
      rw [this vs q, List.set_set]
mutual
theorem pat_ok : ∀ (p : Pat) (d : D) (v : V) (δ δ2 : DSt) (σ : L2.St) (Q : L2.St → Hp → Prop), patB p d δ = some δ2 → Rep c.K H d v → RelS c H δ σ →
    (∀ σ2, RelS c H δ2 σ2 → (∀ vs, (∀ i ∈ patV p, i ∈ vs) → L2.wipe σ2 vs = L2.wipe σ vs) → Q σ2 H) → patG c.K p v σ H Q
  | .nm i, d, v, δ, δ2, σ, Q, hb, r, rs, k => by
    simp only [patB, Option.some.injEq] at hb
    subst hb
    simp only [patG]
    exact k _ (rs.set i r) fun vs hv => wipe_set σ _ vs (hv i (by simp [patV]))
  | .tup ps, d, v, δ, δ2, σ, Q, hb, r, rs, k => by
    cases d with
    | tup ds =>
      simp only [patB] at hb
      obtain ⟨a, xs, e, t, rr⟩ := rel_tup r
      simp only [patG]
      have hl : ds.length = ps.length := pats_len ps ds δ δ2 hb
      exact ⟨a, xs, e, t.sqt, by rw [rr.length, hl], pats_ok ps ds xs δ δ2 σ Q hb rr rs fun σ2 rs2 w => k σ2 rs2 fun vs hv => w vs (fun i hi => hv i (by simpa [patV] using hi))⟩
    | _ => simp [patB] at hb
theorem pats_ok : ∀ (ps : List Pat) (ds : List D) (vs : List V) (δ δ2 : DSt) (σ : L2.St) (Q : L2.St → Hp → Prop), patBs ps ds δ = some δ2 → Reps c.K H ds vs → RelS c H δ σ →
    (∀ σ2, RelS c H δ2 σ2 → (∀ vs, (∀ i ∈ patVs ps, i ∈ vs) → L2.wipe σ2 vs = L2.wipe σ vs) → Q σ2 H) → patGs c.K ps vs σ H Q
  | [], ds, vs, δ, δ2, σ, Q, hb, r, rs, k => by
    cases ds with
    | nil =>
      simp only [patBs, Option.some.injEq] at hb
      subst hb
      simp only [Reps] at r
      simp only [patGs]
      exact ⟨r, k σ rs fun _ _ => rfl⟩
    | cons _ _ => simp [patBs] at hb
  | p :: ps, ds, vs, δ, δ2, σ, Q, hb, r, rs, k => by
    cases ds with
    | nil => simp [patBs] at hb
    | cons d ds =>
      simp only [patBs] at hb
      cases e1 : patB p d δ with
      | none => rw [e1] at hb; cases hb
      | some δ1 =>
        rw [e1] at hb
        simp only [Reps] at r
        obtain ⟨x, z, e, r1, r2⟩ := r
        simp only [patGs]
        refine ⟨x, z, e, pat_ok p d x δ δ1 σ _ e1 r1 rs fun σ1 rs1 w1 => ?_⟩
        refine pats_ok ps ds z δ1 δ2 σ1 Q hb r2 rs1 fun σ2 rs2 w2 => k σ2 rs2 fun vs hv => ?_
        rw [w2 vs (fun i hi => hv i (by simp [patVs, hi])), w1 vs (fun i hi => hv i (by simp [patVs, hi]))]
theorem pats_len : ∀ (ps : List Pat) (ds : List D) (δ δ2 : DSt), patBs ps ds δ = some δ2 → ds.length = ps.length
  | [], ds, δ, δ2, hb => by
    cases ds with
    | nil => rfl
    | cons _ _ => simp [patBs] at hb
  | p :: ps, ds, δ, δ2, hb => by
    cases ds with
    | nil => simp [patBs] at hb
    | cons d ds =>
      simp only [patBs] at hb
      cases e1 : patB p d δ with
      | none => rw [e1] at hb; cases hb
      | some δ1 =>
        rw [e1] at hb
        simp [pats_len ps ds δ1 δ2 hb]
end
end
/-- a hidden list is seen -/
theorem RelH.reveal {c : Cn} {h : DHp} {H : Hp} {p : Addr} {vs : List V} {ds : List D} (rh : RelH c H h) (e : H p = some (.lst vs)) (r : Reps c.K H ds vs) : RelH c H (put h p (.lst ds)) := by
  refine ⟨fun a o ea => ?_, rh.tabs⟩
  by_cases q : a = p
  · subst q
    rw [put_same] at ea
    cases ea
    exact ⟨vs, e, r⟩
  · rw [put_ne q] at ea
    exact rh.at_ a o ea
/-- a hidden list is written -/
theorem RelH.hidWrote {c : Cn} {h : DHp} {H : Hp} {p : Addr} {vs ws : List V} (rh : RelH c H h) (e : H p = some (.lst vs)) (n : h p = none) : RelH c (upd H p (.lst ws)) h ∧ Keeps H (upd H p (.lst ws)) ∧ ∀ a o, a ≠ p → H a = some o → upd H p (.lst ws) a = some o := by
  have ne_ : ∀ b v, H b = some v → (∀ xs, v ≠ .lst xs) → b ≠ p := fun b v q z y => by subst y; rw [e] at q; cases q; exact z _ rfl
  have k : Keeps H (upd H p (.lst ws)) := ⟨fun b xs q => by rw [upd_ne (ne_ b _ q fun _ z => by cases z)]; exact q, fun b ob z q => by rw [upd_ne (ne_ b _ q fun _ z => by cases z)]; exact q⟩
  refine ⟨⟨fun a o ea => ?_, fun q hq => ?_⟩, k, fun a o na ea => by rw [upd_ne na]; exact ea⟩
  · have na : a ≠ p := fun z => by subst z; rw [n] at ea; cases ea
    exact (rh.at_ a o ea).keep k (upd_ne na)
  · obtain ⟨ps, t1, t2, t3⟩ := rh.tabs q hq
    refine ⟨ps, by rw [upd_ne (ne_ _ _ t1 fun _ z => by cases z)]; exact t1, t2, fun pos cv hc => ?_⟩
    obtain ⟨b, e1, e2⟩ := t3 pos cv hc
    exact ⟨b, e1, by rw [upd_ne fun y => by subst y; rw [e] at e2; exact noCode_lst _ _ (Option.some.inj e2)]; exact e2⟩

/-- nothing raised leaves a comprehension -/
abbrev WF : WX := fun _ _ _ _ => False
abbrev nox : DX := fun _ _ => False
theorem takesF {X : Cx} : Takes X WF := takes_none5
structure DTs (X : Cx) (T : Tb) (ifs : List Expr) (m : MT) : Prop where
  t : PTs X ifs (upT (cn X T) WF m)
def dYes : MT := fun _ h Q _ => Q true h
theorem pts_imp {X : Cx} {ifs : List Expr} {t u : TT} (h : PTs X ifs t) (i : ∀ σ H Q, u σ H Q → t σ H Q) : PTs X ifs u := ⟨fun pins s σ H Q I q => h.run pins s σ H Q I (i σ H Q q)⟩
theorem dts_nil {X : Cx} {T : Tb} : DTs X T [] dYes := ⟨by
  refine pts_imp pts_nil ?_
  rintro σ H Q ⟨δ, h, Q', E', rs, rh, q, k, kx⟩
  exact k true H h Ext.refl rh q⟩
theorem dts_one {X : Cx} {T : Tb} {e : Expr} {m : MT} (h : DT X T WF e m) : DTs X T [e] m := ⟨pts_one h⟩

/-- the turns of a comprehension over the items ds -/
def LcB (p : Pat) (tt : MT) (me : ME) (vs : List Nat) (δ : DSt) (Q : DK) (ds : List D) (ok : DHp → Prop) (h1 : DHp) : Prop := ∃ V : Nat → List D → DHp → Prop, V 0 [] h1 ∧ ∀ i acc h, V i acc h → ok h ∧
  (i = ds.length → ∀ q, h q = none → Q (.ref q) (put h q (.lst acc))) ∧
  ∀ d, ds[i]? = some d → ∃ δ2, patB p d (dwipe δ vs) = some δ2 ∧ tt δ2 h (fun b h3 => (b = true → me δ2 h3 (fun y h4 => acc.length < sizeLine ∧ V (i + 1) (acc ++ [y]) h4) nox) ∧
    (b = false → V (i + 1) acc h3)) nox
def dLc (mi : MI) (p : Pat) (tt : MT) (me : ME) (vs : List Nat) : ME := fun δ h Q E => mi δ h (fun ds ok h1 => LcB p tt me vs δ Q ds ok h1) E
/-- items that leave the heap as it is -/
theorem lcB_map {p : Pat} {me : ME} {vs : List Nat} {δ : DSt} {Q : DK} {ds : List D} {ok : DHp → Prop} {h : DHp} (f : D → D) (hok : ok h) (hz : ds.length ≤ sizeLine)
    (he : ∀ d ∈ ds, ∃ δ2, patB p d (dwipe δ vs) = some δ2 ∧ ∀ K : DK, K (f d) h → me δ2 h K nox) (q : ∀ r, h r = none → Q (.ref r) (put h r (.lst (ds.map f)))) : LcB p dYes me vs δ Q ds ok h := by
  refine ⟨fun i acc h' => h' = h ∧ i ≤ ds.length ∧ acc = (ds.take i).map f, ⟨rfl, Nat.zero_le _, rfl⟩, ?_⟩
  rintro i acc h' ⟨rfl, hi, rfl⟩
  refine ⟨hok, fun e r n => ?_, fun d hd => ?_⟩
  · subst e
    rw [List.take_length]
    exact q r n
  · obtain ⟨hlt, hd'⟩ := List.getElem?_eq_some_iff.mp hd
    obtain ⟨δ2, e1, e2⟩ := he d (List.mem_of_getElem? hd)
    refine ⟨δ2, e1, fun _ => e2 _ ⟨?_, rfl, hlt, ?_⟩, fun z => by cases z⟩
    · rw [List.length_map, List.length_take]; omega
    · rw [← hd', List.take_succ_eq_append_getElem hlt, List.map_append]
      rfl
/-- .. where some are left out -/
theorem lcB_filter {p : Pat} {tt : MT} {me : ME} {vs : List Nat} {δ : DSt} {Q : DK} {ds : List D} {ok : DHp → Prop} {h : DHp} (g : D → Bool) (f : D → D) (hok : ok h) (hz : ds.length ≤ sizeLine)
    (he : ∀ d ∈ ds, ∃ δ2, patB p d (dwipe δ vs) = some δ2 ∧ (∀ (K : Bool → DHp → Prop), K (g d) h → tt δ2 h K nox) ∧ (g d = true → ∀ K : DK, K (f d) h → me δ2 h K nox)) (q : ∀ r, h r = none → Q (.ref r) (put h r (.lst ((ds.filter g).map f)))) : LcB p tt me vs δ Q ds ok h := by
  refine ⟨fun i acc h' => h' = h ∧ i ≤ ds.length ∧ acc = ((ds.take i).filter g).map f, ⟨rfl, Nat.zero_le _, rfl⟩, ?_⟩
  rintro i acc h' ⟨rfl, hi, rfl⟩
  refine ⟨hok, fun e r n => ?_, fun d hd => ?_⟩
  · subst e
    rw [List.take_length]
    exact q r n
  · obtain ⟨hlt, hd'⟩ := List.getElem?_eq_some_iff.mp hd
    obtain ⟨δ2, e1, e2, e3⟩ := he d (List.mem_of_getElem? hd)
    refine ⟨δ2, e1, e2 _ ⟨fun z => e3 z _ ⟨?_, rfl, hlt, ?_⟩, fun z => ⟨rfl, hlt, ?_⟩⟩⟩
    · rw [List.length_map]
      have := List.length_filter_le g (ds.take i)
      rw [List.length_take] at this
      omega
    · rw [← hd', List.take_succ_eq_append_getElem hlt, List.filter_append, List.map_append]
      rw [← hd'] at z
      simp [z]
    · rw [List.take_succ_eq_append_getElem hlt, List.filter_append, List.map_append]
      rw [← hd'] at z
      simp [z]
section
variable {X : Cx} {T : Tb} {W : WX} {elt tg iter : Expr} {ifs : List Expr} {scope : Scope} {own : List (Str × Nat)} {pos : Pos} {mi : MI} {p : Pat} {tt : MT} {me : ME}
theorem up_lc (hv : ∀ i ∈ patV p, i ∈ own.map (·.2)) : ∀ σ H Q, up (cn X T) W (dLc mi p tt me (own.map (·.2))) σ H Q →
    tLc (upI (cn X T) W mi) (patG X.K p) (upT (cn X T) WF tt) (up (cn X T) WF me) (own.map (·.2)) σ H Q := by
  rintro σ H Q ⟨δ, h, Q', E', rs, rh, q, k, kx⟩
  refine ⟨δ, h, _, _, rs, rh, q, fun J ds ok H1 h1 x1 rh1 io q1 L nL => ?_, kx⟩
  obtain ⟨V, v0, turn⟩ := q1
  obtain ⟨rh1', x1'⟩ := rh1.hid (u := .lst []) nL
  have nL1 : h1 L = none := rh1.fresh nL
  refine ⟨fun i mm H' => mm = ds.length - i ∧ i ≤ ds.length ∧ ∃ acc ws h', (∀ a o, a ≠ L → h1 a = none → H1 a = some o → (∀ ps, o ≠ .tbl ps) → H' a = some o ∧ h' a = none) ∧ Keeps H1 H' ∧ RelH (cn X T) H' h' ∧ h' L = none ∧ H' L = some (.lst ws) ∧ Reps X.K H' acc ws ∧ V i acc h',
    ⟨ds.length, rfl, Nat.zero_le _, [], [], h1, fun a o na n e nt => ⟨by rw [upd_ne na]; exact e, n⟩, keeps_new nL, rh1', nL1, upd_same, Reps.nil, v0⟩, ?_⟩
  rintro i mm H2 ⟨em, hi, acc, ws, h2, x2, k2, rh2, n2, e2, r2, v2⟩
  obtain ⟨ok2, fin, step⟩ := turn i acc h2 v2
  by_cases hlt : i < ds.length
  · refine .inr ⟨io.go i H2 h2 k2 rh2 ok2 hlt, fun H' => ∃ acc ws h', (∀ a o, a ≠ L → h1 a = none → H1 a = some o → (∀ ps, o ≠ .tbl ps) → H' a = some o ∧ h' a = none) ∧ Keeps H1 H' ∧ RelH (cn X T) H' h' ∧ h' L = none ∧ H' L = some (.lst ws) ∧ Reps X.K H' acc ws ∧ V (i + 1) acc h',
      fun H' ⟨acc, ws, h', z⟩ => ⟨ds.length - (i + 1), by omega, rfl, hlt, acc, ws, h', z⟩, fun x H3 y => ?_⟩
    have hd : ds[i]? = some ds[i] := List.getElem?_eq_getElem hlt
    obtain ⟨r3, rh3, x3⟩ := io.yld i H2 x H3 h2 _ k2 rh2 ok2 hd y
    obtain ⟨δ2, hp, q3⟩ := step _ hd
    have kH : Keeps H H3 := by
      have a := x1.keeps rh
      have b := x3.keeps rh2
      exact ⟨fun c xs e => b.1 _ _ (k2.1 _ _ (a.1 _ _ e)), fun c o z e => b.2 _ _ _ (k2.2 _ _ _ (a.2 _ _ _ e))⟩
    refine pat_ok (c := cn X T) p _ x _ δ2 _ _ hp r3 ((rs.keep kH).wipe _) fun σ2 rs2 w2 => ⟨?_, ?_⟩
    · rw [w2 _ hv]
      have ww : ∀ (l vs : List Nat), (∀ i ∈ l, i ∈ vs) → L2.wipe (L2.wipe σ l) vs = L2.wipe σ vs := by
        intro l
        induction l with
        | nil => intro vs _; rfl
        | cons a l ih =>
          intro vs hl
          show L2.wipe ((L2.wipe σ l).set a none) vs = _
          rw [wipe_set _ _ vs (hl a (by simp)), ih vs fun i hi => hl i (by simp [hi])]
      exact ww _ _ fun i hi => hi
    · -- a frame that holds the list
      have e3 : H3 L = some (.lst ws) := x3.same n2 e2 fun _ z => by cases z
      have r3' : Reps X.K H3 acc ws := Reps.keep (x3.keeps rh2) _ _ r2
      refine ⟨δ2, h2, _, nox, rs2, rh3, q3, fun b H4 h4 x4 rh4 q4 => ?_, fun _ _ _ _ _ z => z⟩
      have e4 : H4 L = some (.lst ws) := x4.same n2 e3 fun _ z => by cases z
      have n4 : h4 L = none := (x4 L _ n2 e3 (fun _ z => by cases z)).2
      have x24 := x3.trans x4
      have thr : ∀ {H' : Hp} {h' : DHp}, Ext h2 h' H2 H' → ∀ a o, a ≠ L → h1 a = none → H1 a = some o → (∀ ps, o ≠ .tbl ps) → H' a = some o ∧ h' a = none := fun {H' h'} xx a o na n e nt => by
        obtain ⟨e1, m1⟩ := x2 a o na n e nt
        exact xx a o m1 e1 nt
      have kpt : ∀ {H' : Hp} {h' : DHp}, Ext h2 h' H2 H' → Keeps H1 H' := fun {H' h'} xx => by
        have b := xx.keeps rh2
        exact ⟨fun c xs e => b.1 _ _ (k2.1 _ _ e), fun c o z e => b.2 _ _ _ (k2.2 _ _ _ e)⟩
      cases b with
      | false => exact ⟨acc, ws, h4, thr x24, kpt x24, rh4, n4, e4, Reps.keep (x4.keeps rh3) _ _ r3', q4.2 rfl⟩
      | true =>
        refine ⟨δ2, h4, _, nox, rs2.keep (x4.keeps rh3), rh4, q4.1 rfl, fun v d H5 h5 x5 r5 rh5 q5 => ?_, fun _ _ _ _ _ z => z⟩
        have e5 : H5 L = some (.lst ws) := x5.same n4 e4 fun _ z => by cases z
        have n5 : h5 L = none := (x5 L _ n4 e4 (fun _ z => by cases z)).2
        have x25 := x24.trans x5
        have r5' : Reps X.K H5 acc ws := Reps.keep (x5.keeps rh4) _ _ (Reps.keep (x4.keeps rh3) _ _ r3')
        obtain ⟨rh6, k6, o6⟩ := rh5.hidWrote (ws := ws ++ [v]) e5 n5
        refine ⟨ws, e5, by rw [r5'.length]; exact q5.1, acc ++ [d], ws ++ [v], h5, fun a o na n e nt => ?_, ?_, rh6, n5, upd_same, Reps.keep k6 _ _ (r5'.append (Reps.one r5)), q5.2⟩
        · obtain ⟨e1, m1⟩ := thr x25 a o na n e nt
          exact ⟨o6 a o na e1, m1⟩
        · have b := kpt x25
          exact ⟨fun c xs e => k6.1 _ _ (b.1 _ _ e), fun c o z e => k6.2 _ _ _ (b.2 _ _ _ e)⟩
  · have hi3 : i = ds.length := by omega
    subst hi3
    refine .inl ⟨io.stop H2 h2 k2 rh2 ok2, ?_⟩
    have rh3 := rh2.reveal e2 r2
    refine k _ _ H2 (put h2 L (.lst acc)) (fun a o n e nt => ?_) mk_ref rh3 (fin rfl L n2)
    obtain ⟨e1, m1⟩ := x1 a o n e nt
    have na : a ≠ L := fun z => by subst z; rw [nL] at e1; cases e1
    obtain ⟨e2', m2⟩ := x2 a o na m1 e1 nt
    exact ⟨e2', by rw [put_ne na]; exact m2⟩
theorem de_lc (hc : X.calm = true) (hN : X.N.Nodup) (hi : DI X T W tg iter mi) (ok : BlkOk X.N X.env.scope scope own) (hv : ∀ i ∈ patV p, i ∈ own.map (·.2))
    (hg : ∀ (s : Shared) (H : Hp) (C : Addr) (cl : List (Str × Addr)) (fp : List Addr), PG (X.blk s H scope (compEnvC scope cl C X.env) fp) tg (patG X.K p))
    (ht : ∀ (s : Shared) (H : Hp) (C : Addr) (cl : List (Str × Addr)) (fp : List Addr), DTs (X.blk s H scope (compEnvC scope cl C X.env) fp) T ifs tt)
    (he : ∀ (s : Shared) (H : Hp) (C : Addr) (cl : List (Str × Addr)) (fp : List Addr), DE (X.blk s H scope (compEnvC scope cl C X.env) fp) T WF elt me) (hs : ∀ x, foldedSetIterable iter X.env x = pure x := by intro _; rfl) :
    DE X T W (.ListComp elt [⟨tg, iter, ifs, 0⟩] scope pos) (dLc mi p tt me (own.map (·.2))) :=
  pe_imp (pe_lc (X := X) (wi := upI (cn X T) W mi) (g := patG X.K p) (tt := upT (cn X T) WF tt) (te := up (cn X T) WF me) hc hN hi ok hg (fun s H C cl fp => (ht s H C cl fp).t) he hs) (up_lc hv)
theorem ds_setLc {i : Nat} {y : Str} {py spos : Pos} (hc : X.calm = true) (hN : X.N.Nodup) (hy : X.N[i]? = some y) (hyl : X.env.scope.names.lookup y = some .local)
    (hsw : swapsWith (.ListComp elt [⟨tg, iter, ifs, 0⟩] scope pos) (some (.Name y py)) spos.line X.env = pure true) (hi : DI X T W tg iter mi) (ok : BlkOk X.N X.env.scope scope own) (hv : ∀ i ∈ patV p, i ∈ own.map (·.2))
    (hg : ∀ (s : Shared) (H : Hp) (C : Addr) (cl : List (Str × Addr)) (fp : List Addr), PG (X.blk s H scope (compEnvC scope cl C X.env) fp) tg (patG X.K p))
    (ht : ∀ (s : Shared) (H : Hp) (C : Addr) (cl : List (Str × Addr)) (fp : List Addr), DTs (X.blk s H scope (compEnvC scope cl C X.env) fp) T ifs tt)
    (he : ∀ (s : Shared) (H : Hp) (C : Addr) (cl : List (Str × Addr)) (fp : List Addr), DE (X.blk s H scope (compEnvC scope cl C X.env) fp) T WF elt me) (hs : ∀ x, foldedSetIterable iter X.env x = pure x := by intro _; rfl) :
    DS X T W (.Assign [.Name y py] (.ListComp elt [⟨tg, iter, ifs, 0⟩] scope pos) spos) (dAsg (dLc mi p tt me (own.map (·.2))) (dName i)) := by
  have zz := ps_setLc (X := X) (i := i) (y := y) (py := py) (elt := elt) (tg := tg) (iter := iter) (ifs := ifs) (scope := scope) (own := own) (pos := pos) (spos := spos) (wi := upI (cn X T) W mi) (g := patG X.K p) (tt := upT (cn X T) WF tt) (te := up (cn X T) WF me) hc hN hy hyl hsw hi ok hg (fun s H C cl fp => (ht s H C cl fp).t) he hs
  refine ps_imp zz ?_
  rintro Z σ H ⟨δ, h, DD, rs, rh, q, k⟩
  refine up_lc (W := W) hv σ H _ ⟨δ, h, _, _, rs, rh, q, fun v d H1 h1 x1 r1 rh1 q1 => ?_, k.ex.expr rs rh⟩
  exact k.nx _ _ H1 h1 x1 ((rs.keep (x1.keeps rh)).set i r1) rh1 q1
end
end Tw
/-! Rules over data: built-in functions, methods, subscripts. -/
namespace Tw
open PySem PySem.Spec PyProof.Rows L2
/-- a call by data -/
abbrev RC := List D → DHp → DK → Prop
def upC (c : Cn) (rd : RC) : List V → Hp → VK → Prop := fun xs H Q => ∃ ds h Q', Reps c.K H ds xs ∧ RelH c H h ∧ rd ds h Q' ∧ Bk c h H Q' Q
abbrev CD (X : Cx) (T : Tb) (f : Value) (rd : RC) : Prop := CallR X f (upC (cn X T) rd)
def dCB (rd : RC) (ms : MA) : ME := fun δ h Q E => ms δ h (fun ds h1 => rd ds h1 Q) E
section
variable {X : Cx} {T : Tb} {W : WX} {e : Expr} {es : List Expr} {ms : MA} {m : ME} {rd : RC} {x : Str} {p pos : Pos} {id ty : String}
theorem up_cb : ∀ σ H Q, up (cn X T) W (dCB rd ms) σ H Q → tCB (upC (cn X T) rd) (upA (cn X T) W ms) σ H Q := by
  rintro σ H Q ⟨δ, h, Q', E', rs, rh, q, k, kx⟩
  exact ⟨δ, h, _, _, rs, rh, q, fun vs ds H1 h1 x1 r1 rh1 q1 => ⟨ds, h1, Q', r1, rh1, q1, k.after x1⟩, kx⟩
theorem de_callB (hc : CD X T (.builtin id) rd) (hg : Gl X x) (hm : X.mg x = none) (hv : bootBuiltins x = some (.builtin id)) (ha : DA X T W (e :: es) ms) (hn : x ≠ "__name__" := by decide) (hdb : (x == ("__debug__" : Str)) = false := by decide)
    (he : starEach (e :: es) X.env = (false, eval e X.env) :: starEach es X.env := by rfl) (hpl : (backTo pos (starEach es X.env)).any (·.1) = false := by rfl) : DE X T W (.Call (.Name x p) (e :: es) [] pos) (dCB rd ms) :=
  pe_imp (pe_callB hc hg hm hv ha hn hdb he hpl) up_cb
theorem de_callTy (hc : CD X T (.type ty) rd) (hg : Gl X x) (hm : X.mg x = none) (hv : bootBuiltins x = some (.type ty)) (ha : DA X T W (e :: es) ms) (hn : x ≠ "__name__" := by decide) (hdb : (x == ("__debug__" : Str)) = false := by decide)
    (he : starEach (e :: es) X.env = (false, eval e X.env) :: starEach es X.env := by rfl) (hpl : (backTo pos (starEach es X.env)).any (·.1) = false := by rfl) : DE X T W (.Call (.Name x p) (e :: es) [] pos) (dCB rd ms) :=
  pe_imp (pe_callTy hc hg hm hv ha hn hdb he hpl) up_cb

/-! methods of built-in types -/
abbrev RM := D → List D → DHp → DK → Prop
def upM (c : Cn) (rd : RM) : V → List V → Hp → VK → Prop := fun x xs H Q => ∃ d ds h Q', Rep c.K H d x ∧ Reps c.K H ds xs ∧ RelH c H h ∧ rd d ds h Q' ∧ Bk c h H Q' Q
abbrev MD (X : Cx) (T : Tb) (id : String) (rd : RM) : Prop := MtR X id (upM (cn X T) rd)
/-- of that type -/
def tyD : String → D → DHp → Prop := fun ty d h => match d with
  | .str _ => ty = "str"
  | .ref a => match h a with
    | some (.lst _) => ty = "list"
    | some (.dct _) => ty = "dict"
    | _ => False
  | _ => False
theorem tyD_ok {c : Cn} {h : DHp} {H : Hp} {d : D} {v : V} (r : Rep c.K H d v) (rh : RelH c H h) (t : tyD ty d h) : tyV c.K ty v H := by
  cases d with
  | str x => have e := rel_str r; subst e; simp only [tyD] at t; subst t; exact rfl
  | ref a =>
    have e := rel_ref r
    subst e
    cases q : h a with
    | none => simp only [tyD, q] at t
    | some o =>
      have z := rh.at_ _ _ q
      cases o with
      | lst ds => simp only [tyD, q] at t; obtain ⟨xs, e1, _⟩ := z; exact .inl ⟨t, xs, .inl (.inl e1)⟩
      | dct kvs => simp only [tyD, q] at t; obtain ⟨xs, e1, _⟩ := z; exact .inr (.inr (.inl ⟨t, .inl ⟨xs, e1⟩⟩))
      | _ => simp only [tyD, q] at t
  | _ => simp only [tyD] at t
def dMt0 (ty : String) (rd : RM) (m : ME) : ME := fun δ h Q E => m δ h (fun d h1 => tyD ty d h1 ∧ rd d [] h1 Q) E
def dMt (ty : String) (rd : RM) (m : ME) (ms : MA) : ME := fun δ h Q E => m δ h (fun d h1 => tyD ty d h1 ∧ ms δ h1 (fun ds h2 => rd d ds h2 Q) E) E
variable {o : Expr} {name : Str} {apos cpos : Pos}
theorem de_mt0 {rm : RM} (pa : PlainAttrs ty) (slot : Slot ty name id) (hty : typeOf (.builtin id) = pure (.type "method_descriptor")) (hm : MD X T id rm) (ho : DE X T W o m)
    (hbase : attributeBase o name X.env (eval o X.env) = eval o X.env := by rfl) (hline : (apos.endLine == cpos.line) = true := by rfl) : DE X T W (.Call (.Attribute o name apos) [] [] cpos) (dMt0 ty rm m) := by
  refine pe_imp (pe_bm0 pa slot hty hm ho hbase hline) ?_
  rintro σ H Q ⟨δ, h, Q', E', rs, rh, q, k, kx⟩
  exact ⟨δ, h, _, _, rs, rh, q, fun v d H1 h1 x1 r1 rh1 q1 => ⟨tyD_ok r1 rh1 q1.1, d, [], h1, Q', r1, Reps.nil, rh1, q1.2, k.after x1⟩, kx⟩
theorem de_mt {rm : RM} (pa : PlainAttrs ty) (slot : Slot ty name id) (hty : typeOf (.builtin id) = pure (.type "method_descriptor")) (hm : MD X T id rm) (ho : DE X T W o m) (ha : DA X T W (e :: es) ms)
    (hbase : attributeBase o name X.env (eval o X.env) = eval o X.env := by rfl)
    (hfew : ((backTo cpos (starEach (e :: es) X.env)).all (fun x => !x.1) && (backToKw cpos (keywordEach [] X.env)).all (fun x => x.1.isSome)
      && decide ((e :: es).length + ([] : List Keyword).length + (if ([] : List Keyword).isEmpty then 0 else 1) < 30)) = true := by rfl)
    (hline : (apos.endLine == cpos.line) = true := by rfl) (hs : starEach (e :: es) X.env = (false, eval e X.env) :: starEach es X.env := by rfl) (hplain : (backTo cpos (starEach es X.env)).any (·.1) = false := by rfl) :
    DE X T W (.Call (.Attribute o name apos) (e :: es) [] cpos) (dMt ty rm m ms) := by
  refine pe_imp (pe_bm pa slot hty hm ho ha hbase hfew hline hs hplain) ?_
  rintro σ H Q ⟨δ, h, Q', E', rs, rh, q, k, kx⟩
  refine ⟨δ, h, _, _, rs, rh, q, fun v d H1 h1 x1 r1 rh1 q1 => ⟨tyD_ok r1 rh1 q1.1, δ, h1, _, E', rs.keep (x1.keeps rh), rh1, q1.2, fun vs ds H2 h2 x2 r2 rh2 q2 => ?_, kx.after x1⟩, kx⟩
  exact ⟨d, ds, h2, Q', Rep.keep (x2.keeps rh1) _ _ r1, r2, rh2, q2, k.after (x1.trans x2)⟩
end
theorem reps1 {K : PySem.W.Frag} {H : Hp} {d : D} {vs : List V} (r : Reps K H [d] vs) : ∃ v, vs = [v] ∧ Rep K H d v := by
  simp only [Reps] at r
  obtain ⟨x, _, e, r1, e2⟩ := r
  exact ⟨x, by rw [e, e2], r1⟩
theorem reps2 {K : PySem.W.Frag} {H : Hp} {d d' : D} {vs : List V} (r : Reps K H [d, d'] vs) : ∃ v v', vs = [v, v'] ∧ Rep K H d v ∧ Rep K H d' v' := by
  simp only [Reps] at r
  obtain ⟨x, _, e, r1, y, _, e2, r2, e3⟩ := r
  exact ⟨x, y, by rw [e, e2, e3], r1, r2⟩
theorem rep_scr {K : PySem.W.Frag} {H : Hp} {ns : List Int} {v : V} (r : Rep K H (.scr ns) v) : ∃ a, v = .ref a ∧ SqL K H a (ns.map V.int) := by
  simp only [Rep] at r
  obtain ⟨a, e, ⟨o, q⟩ | ⟨o, its, n, q1, q2, q3, q4, q5, q6⟩⟩ := r
  · exact ⟨a, e, .inl (.inr ⟨o, q⟩)⟩
  · exact ⟨a, e, .inr ⟨o, its, n, q1, q2, q3, q4, q5, q6⟩⟩
theorem sql_lst {c : Cn} {h : DHp} {H : Hp} {a : Addr} {ds : List D} (rh : RelH c H h) (e : h a = some (.lst ds)) : ∃ xs, SqL c.K H a xs ∧ Reps c.K H ds xs ∧ H a = some (.lst xs) :=
  let ⟨xs, e1, e2⟩ := rh.at_ _ _ e
  ⟨xs, .inl (.inl e1), e2, e1⟩
/-- what a list or a tuple holds -/
def itemsD (d : D) (h : DHp) : Option (List D) := match d with
  | .tup ds => some ds
  | .scr ns => some (ns.map D.int)
  | .ref a => match h a with
    | some (.lst ds) => some ds
    | _ => none
  | _ => none
theorem reps_ints {K : PySem.W.Frag} {H : Hp} : ∀ ns : List Int, Reps K H (ns.map D.int) (ns.map V.int)
  | [] => Reps.nil
  | n :: ns => by rw [List.map_cons, List.map_cons]; exact Reps.cons mk_int (reps_ints ns)
theorem ints_reps {K : PySem.W.Frag} {H : Hp} : ∀ {ns : List Int} {vs : List V}, Reps K H (ns.map D.int) vs → vs = ns.map V.int
  | [], _, r => by simpa only [List.map_nil, Reps] using r
  | n :: ns, _, r => by
    simp only [List.map_cons, Reps] at r
    obtain ⟨x, z, e, r1, r2⟩ := r
    rw [e, rel_int r1, ints_reps r2]
    rfl
theorem bls_reps {K : PySem.W.Frag} {H : Hp} : ∀ {ns : List Bool} {vs : List V}, Reps K H (ns.map D.bl) vs → vs = ns.map V.bl
  | [], _, r => by simpa only [List.map_nil, Reps] using r
  | n :: ns, _, r => by
    simp only [List.map_cons, Reps] at r
    obtain ⟨x, z, e, r1, r2⟩ := r
    rw [e, rel_bl r1, bls_reps r2]
    rfl
theorem strs_reps {K : PySem.W.Frag} {H : Hp} : ∀ {ns : List (List Nat)} {vs : List V}, Reps K H (ns.map D.str) vs → vs = (ns.map tx).map V.str
  | [], _, r => by simpa only [List.map_nil, Reps] using r
  | n :: ns, _, r => by
    simp only [List.map_cons, Reps] at r
    obtain ⟨x, z, e, r1, r2⟩ := r
    rw [e, rel_str r1, strs_reps r2]
    rfl
theorem items_rep {c : Cn} {h : DHp} {H : Hp} {d : D} {v : V} {ds : List D} (r : Rep c.K H d v) (rh : RelH c H h) (e : itemsD d h = some ds) : ∃ a xs, v = .ref a ∧ (SqL c.K H a xs ∨ SqT c.K H a xs) ∧ Reps c.K H ds xs := by
  cases d with
  | tup es =>
    simp only [itemsD, Option.some.injEq] at e
    subst e
    obtain ⟨a, xs, e, t, q⟩ := rel_tup r
    exact ⟨a, xs, e, .inr t.sqt, q⟩
  | scr ns =>
    simp only [itemsD, Option.some.injEq] at e
    subst e
    obtain ⟨a, e, t⟩ := rep_scr r
    exact ⟨a, _, e, .inl t, reps_ints ns⟩
  | ref a =>
    simp only [itemsD] at e
    cases q : h a with
    | none => simp [q] at e
    | some o =>
      cases o with
      | lst es =>
        simp only [q, Option.some.injEq] at e
        subst e
        obtain ⟨xs, e1, e2, _⟩ := sql_lst rh q
        exact ⟨a, xs, rel_ref r, .inl e1, e2⟩
      | _ => simp [q] at e
  | _ => simp [itemsD] at e
/-- of a list alone -/
def listD (d : D) (h : DHp) : Option (List D) := match d with
  | .ref a => match h a with
    | some (.lst ds) => some ds
    | _ => none
  | _ => none
theorem list_rep {c : Cn} {h : DHp} {H : Hp} {d : D} {v : V} {ds : List D} (r : Rep c.K H d v) (rh : RelH c H h) (e : listD d h = some ds) : ∃ a xs, d = .ref a ∧ v = .ref a ∧ h a = some (.lst ds) ∧ H a = some (.lst xs) ∧ Reps c.K H ds xs := by
  cases d with
  | ref a =>
    simp only [listD] at e
    cases q : h a with
    | none => simp [q] at e
    | some o =>
      cases o with
      | lst es =>
        simp only [q, Option.some.injEq] at e
        subst e
        obtain ⟨xs, e1, e2, e3⟩ := sql_lst rh q
        exact ⟨a, xs, rfl, rel_ref r, q, e3, e2⟩
      | _ => simp [q] at e
  | _ => simp [listD] at e

section
variable {X : Cx} {T : Tb}
/-! ### built-in functions -/
def bLen : RC := fun ds h Q => match ds with
  | [.str x] => x.length ≤ sizeLine ∧ Q (.int x.length) h
  | [d] => ∃ xs, itemsD d h = some xs ∧ Q (.int xs.length) h
  | _ => False
theorem cd_len : CD X T (.builtin "len") bLen := by
  intro pins s σ H vs us Q I rv hh
  obtain ⟨ds, h, Q', r, rh, q, k⟩ := hh
  have seq : ∀ d, ds = [d] → (∃ xs, itemsD d h = some xs ∧ Q' (.int xs.length) h) → wpAny (model X.prog X.w) X.A (call (.builtin "len") us) (EP X pins σ Q) X.xe s := by
    rintro d e ⟨xs, ei, q2⟩
    subst e
    obtain ⟨v, e, r1⟩ := reps1 r
    subst e
    obtain ⟨a, ys, e, sq, r2⟩ := items_rep r1 rh ei
    subst e
    refine call_len pins s σ H _ us Q I rv ⟨_, ys.length, rfl, ?_, by rw [r2.length]; exact k.here mk_int rh q2⟩
    rcases sq with sq | sq
    · exact .inl ⟨ys, sq, rfl⟩
    · exact .inr ⟨ys, sq, rfl⟩
  match ds, q, r, seq with
  | [.str x], q, r, _ =>
    obtain ⟨v, e, r1⟩ := reps1 r
    subst e
    exact call_len pins s σ H _ us Q I rv ⟨_, x.length, rfl, by rw [rel_str r1]; exact ⟨by rw [tx_len]; exact q.1, (tx_len x).symm⟩, k.here mk_int rh q.2⟩
  | [.non], q, _, seq => exact seq _ rfl q
  | [.bl _], q, _, seq => exact seq _ rfl q
  | [.int _], q, _, seq => exact seq _ rfl q
  | [.ty _], q, _, seq => exact seq _ rfl q
  | [.ref _], q, _, seq => exact seq _ rfl q
  | [.tup _], q, _, seq => exact seq _ rfl q
  | [.scr _], q, _, seq => exact seq _ rfl q
  | [.fn _], q, _, seq => exact seq _ rfl q
/-- what a value's type is, as far as isinstance asks -/
def tyOfD (d : D) (h : DHp) : Option String := match d with
  | .non => some "NoneType"
  | .bl _ => some "bool"
  | .int _ => some "int"
  | .str _ => some "str"
  | .tup _ => some "tuple"
  | .scr _ => some "list"
  | .ref a => match h a with
    | some (.lst _) => some "list"
    | some (.dct _) => some "dict"
    | _ => none
  | .ty _ => none
  | .fn _ => none
theorem tyX_of {c : Cn} {h : DHp} {H : Hp} {d : D} {v : V} {n : String} (r : Rep c.K H d v) (rh : RelH c H h) (e : tyOfD d h = some n) : TyX c.K H v (.type n) := by
  cases d with
  | non => rw [rel_non r]; cases e; exact .base .non
  | bl b => rw [rel_bl r]; cases e; exact .base (.bl b)
  | int b => rw [rel_int r]; cases e; exact .base (.int b)
  | str b => rw [rel_str r]; cases e; exact .base (.str _)
  | tup ds =>
    cases e
    obtain ⟨a, xs, e, t, _⟩ := rel_tup r
    subst e
    rcases t with t | ⟨o, its, n, q1, q2, _⟩
    · exact .base (.tup t)
    · exact .kTuple q1 q2
  | scr ns =>
    cases e
    simp only [Rep] at r
    obtain ⟨a, e, ⟨o, q⟩ | ⟨o, its, n, q1, q2, q3, q4, q5, q6⟩⟩ := r
    · subst e; exact .base (.frz q)
    · subst e; exact .kList q1 q2
  | ref a =>
    rw [rel_ref r]
    simp only [tyOfD] at e
    cases q : h a with
    | none => simp [q] at e
    | some o =>
      have z := rh.at_ _ _ q
      cases o with
      | lst es => simp only [q, Option.some.injEq] at e; subst e; obtain ⟨xs, e1, _⟩ := z; exact .base (.lst e1)
      | dct es => simp only [q, Option.some.injEq] at e; subst e; obtain ⟨xs, e1, _⟩ := z; exact .base (.dK e1)
      | _ => simp [q] at e
  | ty n => cases e
  | fn n => cases e
/-- isinstance of a value of one built-in type: bool is an int -/
def isTy (n m : String) : Bool := n == m || (n == "bool" && m == "int")
def bIsi : RC := fun ds h Q => match ds with
  | [d, .ty m] => ∃ n, tyOfD d h = some n ∧ m ∈ ["int", "bool", "str", "tuple", "list"] ∧ Q (.bl (isTy n m)) h
  | _ => False
theorem tyOfD_in {d : D} {h : DHp} {n : String} (e : tyOfD d h = some n) : n ∈ ["NoneType", "bool", "int", "str", "tuple", "list", "dict"] := by
  cases d with
  | ref a =>
    simp only [tyOfD] at e
    cases q : h a with
    | none => simp [q] at e
    | some o => cases o <;> simp [q] at e <;> subst e <;> simp
  | ty n => cases e
  | _ => cases e <;> simp
theorem kit_all : ∀ (K : PySem.W.Frag) (n m : String), n ∈ ["NoneType", "bool", "int", "str", "tuple", "list", "dict"] → m ∈ ["int", "bool", "str", "tuple", "list"] → PySem.W.kitOne K (.type n) (.type m) = some (isTy n m) := by
  intro K n m hn hm
  simp only [List.mem_cons, List.mem_nil_iff, or_false] at hn hm
  rcases hn with rfl | rfl | rfl | rfl | rfl | rfl | rfl <;> rcases hm with rfl | rfl | rfl | rfl | rfl <;> first | rfl | with_unfolding_all rfl
theorem cd_isi : CD X T (.builtin "isinstance") bIsi := by
  intro pins s σ H vs us Q I rv hh
  obtain ⟨ds, h, Q', r, rh, q, k⟩ := hh
  match ds, q, r with
  | [d, .ty m], ⟨n, e, hm, q⟩, r =>
    obtain ⟨v, v', ev, r1, r2⟩ := reps2 r
    subst ev
    simp only [Rep] at r2
    subst r2
    exact call_isi pins s σ H _ us Q I rv ⟨v, _, _, _, _, rfl, .ty m, tyX_of r1 rh e, kit_all _ n m (tyOfD_in e) hm, k.here mk_bl rh q⟩
def bAll (g : List Bool → Bool) : RC := fun ds h Q => match ds with
  | [d] => ∃ bs : List Bool, listD d h = some (bs.map D.bl) ∧ Q (.bl (g bs)) h
  | _ => False
theorem cd_all (hc : X.calm = true) : CD X T (.builtin "all") (bAll fun bs => bs.all id) := by
  intro pins s σ H vs us Q I rv hh
  obtain ⟨ds, h, Q', r, rh, q, k⟩ := hh
  match ds, q, r with
  | [d], ⟨bs, e, q⟩, r =>
    obtain ⟨v, ev, r1⟩ := reps1 r
    subst ev
    obtain ⟨a, xs, e1, e2, e3, e4, e5⟩ := list_rep r1 rh e
    rw [bls_reps e5] at e4
    subst e2
    exact cr_all hc pins s σ H _ us Q I rv ⟨a, bs, rfl, .inl (.inl e4), k.here mk_bl rh q⟩
theorem cd_any (hc : X.calm = true) : CD X T (.builtin "any") (bAll fun bs => bs.any id) := by
  intro pins s σ H vs us Q I rv hh
  obtain ⟨ds, h, Q', r, rh, q, k⟩ := hh
  match ds, q, r with
  | [d], ⟨bs, e, q⟩, r =>
    obtain ⟨v, ev, r1⟩ := reps1 r
    subst ev
    obtain ⟨a, xs, e1, e2, e3, e4, e5⟩ := list_rep r1 rh e
    rw [bls_reps e5] at e4
    subst e2
    exact cr_any hc pins s σ H _ us Q I rv ⟨a, bs, rfl, .inl (.inl e4), k.here mk_bl rh q⟩
/-- least and greatest of a list of ints -/
def minI : List Int → Int
  | [] => 0
  | [x] => x
  | x :: xs => min x (minI xs)
def maxI : List Int → Int
  | [] => 0
  | [x] => x
  | x :: xs => max x (maxI xs)
theorem minI_le : ∀ (xs : List Int) (y : Int), y ∈ xs → minI xs ≤ y
  | [x], y, h => by simp at h; subst h; exact Int.le_refl _
  | x :: z :: xs, y, h => by
    have ih := minI_le (z :: xs)
    unfold minI
    rcases List.mem_cons.mp h with e | e
    · subst e; exact Int.min_le_left _ _
    · exact Int.le_trans (Int.min_le_right _ _) (ih y e)
theorem minI_mem : ∀ (xs : List Int), 0 < xs.length → minI xs ∈ xs
  | [x], _ => by simp [minI]
  | x :: z :: xs, _ => by
    have ih := minI_mem (z :: xs) (by simp)
    unfold minI
    rcases Int.le_total x (minI (z :: xs)) with e | e
    · rw [Int.min_eq_left e]; simp
    · rw [Int.min_eq_right e]; exact List.mem_cons_of_mem _ ih
theorem maxI_le : ∀ (xs : List Int) (y : Int), y ∈ xs → y ≤ maxI xs
  | [x], y, h => by simp at h; subst h; exact Int.le_refl _
  | x :: z :: xs, y, h => by
    have ih := maxI_le (z :: xs)
    unfold maxI
    rcases List.mem_cons.mp h with e | e
    · subst e; exact Int.le_max_left _ _
    · exact Int.le_trans (ih y e) (Int.le_max_right _ _)
theorem maxI_mem : ∀ (xs : List Int), 0 < xs.length → maxI xs ∈ xs
  | [x], _ => by simp [maxI]
  | x :: z :: xs, _ => by
    have ih := maxI_mem (z :: xs) (by simp)
    unfold maxI
    rcases Int.le_total x (maxI (z :: xs)) with e | e
    · rw [Int.max_eq_right e]; exact List.mem_cons_of_mem _ ih
    · rw [Int.max_eq_left e]; simp
def bInts (g : List Int → Int) (ok : List Int → Prop) : RC := fun ds h Q => match ds with
  | [d] => ∃ ns : List Int, listD d h = some (ns.map D.int) ∧ ok ns ∧ Q (.int (g ns)) h
  | _ => False
def bMin : RC := bInts minI fun ns => 0 < ns.length
def bMax : RC := bInts maxI fun ns => 0 < ns.length
def bSum : RC := bInts List.sum fun _ => True
theorem cd_min (hc : X.calm = true) : CD X T (.builtin "min") bMin := by
  intro pins s σ H vs us Q I rv hh
  obtain ⟨ds, h, Q', r, rh, q, k⟩ := hh
  match ds, q, r with
  | [d], ⟨ns, e, hz, q⟩, r =>
    obtain ⟨v, ev, r1⟩ := reps1 r
    subst ev
    obtain ⟨a, xs, e1, e2, e3, e4, e5⟩ := list_rep r1 rh e
    rw [ints_reps e5] at e4
    subst e2
    refine cr_min hc pins s σ H _ us Q I rv ⟨a, ns, rfl, .inl (.inl e4), hz, fun m hm hl => ?_⟩
    have : m = minI ns := Int.le_antisymm (hl _ (minI_mem ns hz)) (minI_le ns m hm)
    subst this
    exact k.here mk_int rh q
theorem cd_max (hc : X.calm = true) : CD X T (.builtin "max") bMax := by
  intro pins s σ H vs us Q I rv hh
  obtain ⟨ds, h, Q', r, rh, q, k⟩ := hh
  match ds, q, r with
  | [d], ⟨ns, e, hz, q⟩, r =>
    obtain ⟨v, ev, r1⟩ := reps1 r
    subst ev
    obtain ⟨a, xs, e1, e2, e3, e4, e5⟩ := list_rep r1 rh e
    rw [ints_reps e5] at e4
    subst e2
    refine cr_max hc pins s σ H _ us Q I rv ⟨a, ns, rfl, .inl (.inl e4), hz, fun m hm hl => ?_⟩
    have : m = maxI ns := Int.le_antisymm (maxI_le ns m hm) (hl _ (maxI_mem ns hz))
    subst this
    exact k.here mk_int rh q
theorem cd_sum (hc : X.calm = true) : CD X T (.builtin "sum") bSum := by
  intro pins s σ H vs us Q I rv hh
  obtain ⟨ds, h, Q', r, rh, q, k⟩ := hh
  match ds, q, r with
  | [d], ⟨ns, e, hz, q⟩, r =>
    obtain ⟨v, ev, r1⟩ := reps1 r
    subst ev
    obtain ⟨a, xs, e1, e2, e3, e4, e5⟩ := list_rep r1 rh e
    rw [ints_reps e5] at e4
    subst e2
    exact cr_sum hc pins s σ H _ us Q I rv ⟨a, ns, rfl, .inl (.inl e4), k.here mk_int rh q⟩
def bInt : RC := fun ds h Q => match ds with
  | [.int i] => Q (.int i) h
  | [.bl b] => Q (.int (if b then 1 else 0)) h
  | _ => False
theorem cd_int : CD X T (.type "int") bInt := by
  intro pins s σ H vs us Q I rv hh
  obtain ⟨ds, h, Q', r, rh, q, k⟩ := hh
  match ds, q, r with
  | [.int i], q, r =>
    obtain ⟨v, ev, r1⟩ := reps1 r
    subst ev
    exact call_int1 pins s σ H _ us Q I rv (.inl ⟨i, by rw [rel_int r1], k.here mk_int rh q⟩)
  | [.bl b], q, r =>
    obtain ⟨v, ev, r1⟩ := reps1 r
    subst ev
    exact call_int1 pins s σ H _ us Q I rv (.inr ⟨b, by rw [rel_bl r1], k.here mk_int rh q⟩)
/-- list(xs), list(text) -/
def bList : RC := fun ds h Q => match ds with
  | [.str x] => x.length ≤ sizeLine ∧ ∀ p, h p = none → Q (.ref p) (put h p (.lst (x.map fun c => .str [c])))
  | [d] => ∃ xs, itemsD d h = some xs ∧ ∀ p, h p = none → Q (.ref p) (put h p (.lst xs))
  | _ => False
theorem reps_signs {K : PySem.W.Frag} {H : Hp} : ∀ (x : List Nat) (us : List Value), us.length = x.length → (∀ (j : Nat) (v : Value), us[j]? = some v → ∃ (c : Nat) (t : Tok), x[j]? = some c ∧ v = Value.str ⟨#[c]⟩ t) →
    Reps K H (x.map fun c => D.str [c]) (x.map fun c => V.str ⟨#[c]⟩) ∧ Vals (x.map fun c => V.str ⟨#[c]⟩) us
  | [], [], _, _ => ⟨Reps.nil, .nil⟩
  | [], _ :: _, h, _ => by simp at h
  | _ :: _, [], h, _ => by simp at h
  | c :: x, u :: us, h, f => by
    obtain ⟨h1, h2⟩ := reps_signs (K := K) (H := H) x us (by simpa using h) fun j v e => by
      obtain ⟨c, t, e1, e2⟩ := f (j + 1) v (by simpa using e)
      exact ⟨c, t, by simpa using e1, e2⟩
    obtain ⟨c', t, e1, e2⟩ := f 0 u (by simp)
    simp at e1
    subst e1 e2
    rw [List.map_cons, List.map_cons]
    exact ⟨Reps.cons mk_str h1, .cons ⟨t, rfl⟩ h2⟩
theorem cd_list (hc : X.calm = true) : CD X T (.type "list") bList := by
  intro pins s σ H vs us Q I rv hh
  obtain ⟨ds, h, Q', r, rh, q, k⟩ := hh
  have seq : ∀ d, ds = [d] → (∃ xs, itemsD d h = some xs ∧ ∀ p, h p = none → Q' (.ref p) (put h p (.lst xs))) → wpAny (model X.prog X.w) X.A (call (.type "list") us) (EP X pins σ Q) X.xe s := by
    rintro d e ⟨xs, ei, q2⟩
    subst e
    obtain ⟨v, e, r1⟩ := reps1 r
    subst e
    obtain ⟨a, ys, e, sq, r2⟩ := items_rep r1 rh ei
    subst e
    refine call_list_of pins s σ H _ us Q I rv ⟨a, ys, rfl, sq, fun l n => ?_⟩
    obtain ⟨rh2, x2⟩ := RelH.newList rh n r2
    exact k _ _ _ _ x2 mk_ref rh2 (q2 l (rh.fresh n))
  match ds, q, r, seq with
  | [.str x], q, r, _ =>
    obtain ⟨v, e, r1⟩ := reps1 r
    subst e
    have e := rel_str r1
    subst e
    obtain ⟨u, eu, t, eu2⟩ := vals1 rv
    subst eu eu2
    refine PySem.call_list_str (I.ok.hd hc) (tx x) t (hn := by show (tx x).length ≤ sizeLine; rw [tx_len]; exact q.1) fun h' tk acc' c' hk hS hacc => ?_
    have hz : (tx x).cps.size = x.length := by show x.toArray.size = x.length; simp
    obtain ⟨rr, vv⟩ := reps_signs (K := X.K) (H := H) x acc'.toList (by rw [Array.length_toList, hacc.1, hz]) fun j v e => by
      obtain ⟨c, t, e1, e2⟩ := hacc.2 j v (by rw [← Array.getElem?_toList]; exact e)
      exact ⟨c, t, by simpa using e1, e2⟩
    have n : H s.heap.objs.size = none := I.hok.fresh (Nat.le_refl _)
    obtain ⟨rh2, x2⟩ := RelH.newList rh n rr
    exact ⟨.ref s.heap.objs.size, _, I.laid (o := .lst (x.map fun c => V.str ⟨#[c]⟩)) hk (Nat.le_refl _) ⟨by rw [List.length_map]; exact q.1, acc'.toList, c', vv, by rw [Array.toArray_toList]; exact hS⟩, rfl, k _ _ _ _ x2 mk_ref rh2 (q.2 _ (rh.fresh n))⟩
  | [.non], q, _, seq => exact seq _ rfl q
  | [.bl _], q, _, seq => exact seq _ rfl q
  | [.int _], q, _, seq => exact seq _ rfl q
  | [.ty _], q, _, seq => exact seq _ rfl q
  | [.ref _], q, _, seq => exact seq _ rfl q
  | [.tup _], q, _, seq => exact seq _ rfl q
  | [.scr _], q, _, seq => exact seq _ rfl q
  | [.fn _], q, _, seq => exact seq _ rfl q
/-- tuple(list), tuple(tuple) -/
def bTup : RC := fun ds h Q => match ds with
  | [d] => ∃ xs, itemsD d h = some xs ∧ Q (.tup xs) h
  | _ => False
theorem cd_tup : CD X T (.type "tuple") bTup := by
  intro pins s σ H vs us Q I rv hh
  obtain ⟨ds, h, Q', r, rh, q, k⟩ := hh
  match ds, q, r with
  | [d], ⟨xs, ei, q⟩, r =>
    obtain ⟨v, e, r1⟩ := reps1 r
    subst e
    cases d with
    | tup es =>
      simp only [itemsD, Option.some.injEq] at ei
      subst ei
      obtain ⟨a, ys, e, t, r2⟩ := rel_tup r1
      subst e
      exact call_tuple_of pins s σ H _ us Q I rv ⟨a, ys, rfl, .inr ⟨t.sqt, k.here r1 rh q⟩⟩
    | scr ns =>
      simp only [itemsD, Option.some.injEq] at ei
      subst ei
      obtain ⟨a, e, t⟩ := rep_scr r1
      subst e
      refine call_tuple_of pins s σ H _ us Q I rv ⟨a, _, rfl, .inl ⟨t, fun l n => ?_⟩⟩
      obtain ⟨rh2, x2⟩ := rh.hid (u := .tup (ns.map V.int)) n
      exact k _ _ _ _ x2 (mk_tup (.inl upd_same) (reps_ints ns)) rh2 q
    | ref a =>
      obtain ⟨a', ys, e1, e2, e3, e4, r2⟩ := list_rep r1 rh (show listD (.ref a) h = some xs from ei)
      subst e2
      refine call_tuple_of pins s σ H _ us Q I rv ⟨a', ys, rfl, .inl ⟨.inl (.inl e4), fun l n => ?_⟩⟩
      obtain ⟨rh2, x2⟩ := rh.hid (u := .tup ys) n
      exact k _ _ _ _ x2 (mk_tup (.inl upd_same) (Reps.keep (keeps_new n) _ _ r2)) rh2 q
    | _ => simp [itemsD] at ei
end
end Tw
/-! Rules over data: methods, more operations, subscripts. -/
namespace Tw
open PySem PySem.Spec PyProof.Rows L2
/-- a list that is seen is written -/
theorem RelH.reList {c : Cn} {h : DHp} {H : Hp} {a : Addr} {ds es : List D} {vs ws : List V} (rh : RelH c H h) (e : h a = some (.lst ds)) (eH : H a = some (.lst vs)) (r : Reps c.K H es ws) : RelH c (upd H a (.lst ws)) (put h a (.lst es)) ∧ Ext h (put h a (.lst es)) H (upd H a (.lst ws)) :=
  rh.wrote e eH noCode_lst fun k => ⟨ws, upd_same, Reps.keep k _ _ r⟩
section
variable {X : Cx} {T : Tb}
def mAppend : RM := fun d ds h Q => match d, ds with
  | .ref a, [y] => ∃ xs, h a = some (.lst xs) ∧ xs.length < sizeLine ∧ Q .non (put h a (.lst (xs ++ [y])))
  | _, _ => False
theorem md_append : MD X T "list.append" mAppend := by
  intro pins s σ H x vs v us Q I rx rv hh
  obtain ⟨d, ds, h, Q', rd, r, rh, q, k⟩ := hh
  match d, ds, q, rd, r with
  | .ref a, [y], ⟨xs, e, hz, q⟩, rd, r =>
    obtain ⟨w, ew, r1⟩ := reps1 r
    subst ew
    obtain ⟨ys, _, e2, e3⟩ := sql_lst rh e
    obtain ⟨rh2, x2⟩ := rh.reList e e3 (e2.append (Reps.one r1))
    exact mt_append pins s σ H x _ v us Q I rx rv ⟨a, ys, w, rel_ref rd, rfl, e3, by rw [e2.length]; exact hz, k _ _ _ _ x2 mk_non rh2 q⟩
def mExtend : RM := fun d ds h Q => match d, ds with
  | .ref a, [.ref b] => ∃ xs ys, h a = some (.lst xs) ∧ h b = some (.lst ys) ∧ xs.length + ys.length ≤ sizeLine ∧ Q .non (put h a (.lst (xs ++ ys)))
  | _, _ => False
theorem md_extend : MD X T "list.extend" mExtend := by
  intro pins s σ H x vs v us Q I rx rv hh
  obtain ⟨d, ds, h, Q', rd, r, rh, q, k⟩ := hh
  match d, ds, q, rd, r with
  | .ref a, [.ref b], ⟨xs, ys, e, eb, hz, q⟩, rd, r =>
    obtain ⟨w, ew, r1⟩ := reps1 r
    subst ew
    obtain ⟨vx, _, e2, e3⟩ := sql_lst rh e
    obtain ⟨vy, _, e4, e5⟩ := sql_lst rh eb
    obtain ⟨rh2, x2⟩ := rh.reList e e3 (e2.append e4)
    exact mt_extend pins s σ H x _ v us Q I rx rv ⟨a, b, vx, vy, rel_ref rd, by rw [rel_ref r1], e3, e5, by rw [e2.length, e4.length]; exact hz, k _ _ _ _ x2 mk_non rh2 q⟩
/-- pop(): the last one -/
def mPop : RM := fun d ds h Q => match d, ds with
  | .ref a, [] => ∃ xs y, h a = some (.lst (xs ++ [y])) ∧ Q y (put h a (.lst xs))
  | _, _ => False
theorem md_pop : MD X T "list.pop" mPop := by
  intro pins s σ H x vs v us Q I rx rv hh
  obtain ⟨d, ds, h, Q', rd, r, rh, q, k⟩ := hh
  match d, ds, q, rd, r with
  | .ref a, [], ⟨xs, y, e, q⟩, rd, r =>
    simp only [Reps] at r
    subst r
    obtain ⟨vx, _, e2, e3⟩ := sql_lst rh e
    have hl := e2.length
    rw [List.length_append, List.length_singleton] at hl
    obtain ⟨w, ew, rw'⟩ := e2.get (i := xs.length) (d := y) (by simp)
    have e4 := e2.take xs.length
    rw [List.take_left] at e4
    obtain ⟨rh2, x2⟩ := rh.reList e e3 e4
    have hd : vx.dropLast = vx.take xs.length := by rw [List.dropLast_eq_take, hl]; rfl
    refine mt_pop pins s σ H x _ v us Q I rx rv ⟨a, vx, w, rel_ref rd, rfl, e3, by rw [hl]; exact ew, ?_⟩
    rw [hd]
    exact k _ _ _ _ x2 (Rep.keep (x2.keeps rh) _ _ rw') rh2 q
/-- sep.join(texts) -/
def joinD (sep : List Nat) : List (List Nat) → List Nat
  | [] => []
  | [x] => x
  | x :: xs => x ++ sep ++ joinD sep xs
theorem join_tx0 (sep : List Nat) : ∀ ys : List (List Nat), Str.join (tx sep) (ys.map tx) = tx (joinD sep ys)
  | [] => rfl
  | [x] => rfl
  | x :: y :: ys => by
    have ih := join_tx0 sep (y :: ys)
    show tx x ++ tx sep ++ Str.join (tx sep) ((y :: ys).map tx) = tx (x ++ sep ++ joinD sep (y :: ys))
    rw [ih, tx_app, tx_app]
theorem join_tx (sep : List Nat) (ys : List (List Nat)) : Txt.join (tx sep) (ys.map tx) = tx (joinD sep ys) := (TL.join_eq _ _).trans (join_tx0 sep ys)
theorem joinD_nil : ∀ ys : List (List Nat), joinD [] ys = ys.flatten
  | [] => rfl
  | [x] => by simp [joinD]
  | x :: y :: ys => by
    have ih := joinD_nil (y :: ys)
    simp only [joinD, List.append_nil, List.flatten_cons] at ih ⊢
    rw [ih]
def mJoin : RM := fun d ds h Q => match d, ds with
  | .str sep, [l] => ∃ ys : List (List Nat), itemsD l h = some (ys.map D.str) ∧ (ys.map List.length).sum + ys.length * sep.length ≤ 16777216 ∧ Q (.str (joinD sep ys)) h
  | _, _ => False
theorem md_join : MD X T "str.join" mJoin := by
  intro pins s σ H x vs v us Q I rx rv hh
  obtain ⟨d, ds, h, Q', rd, r, rh, q, k⟩ := hh
  match d, ds, q, rd, r with
  | .str sep, [l], ⟨ys, e, hz, q⟩, rd, r =>
    obtain ⟨w, ew, r1⟩ := reps1 r
    subst ew
    obtain ⟨a, xs, e1, sq, e2⟩ := items_rep r1 rh e
    subst e1
    rw [strs_reps e2] at sq
    refine mt_join pins s σ H x _ v us Q I rx rv ⟨tx sep, a, ys.map tx, rel_str rd, rfl, sq, ?_, by rw [join_tx]; exact k.here mk_str rh q⟩
    rw [List.map_map, List.length_map, tx_len]
    have : (fun x => x.length) ∘ tx = List.length := by funext z; exact tx_len z
    rw [this]
    exact hz

/-! ### * -/
theorem foldl_app : ∀ (n : Nat) (x acc : List Nat), (List.replicate n x.toArray).foldl (fun a b => a ++ b) acc.toArray = (acc ++ (List.replicate n x).flatten).toArray
  | 0, x, acc => by simp
  | n + 1, x, acc => by
    rw [List.replicate_succ, List.foldl_cons, List.append_toArray, foldl_app n x (acc ++ x), List.replicate_succ, List.flatten_cons, List.append_assoc]
def repD {α : Type} (n : Nat) (x : List α) : List α := (List.replicate n x).flatten
theorem repD_len {α : Type} (n : Nat) (x : List α) : (repD n x).length = n * x.length := by
  unfold repD
  induction n with
  | zero => simp
  | succ n ih => rw [List.replicate_succ, List.flatten_cons, List.length_append, ih, Nat.succ_mul, Nat.add_comm]
def dMul (x y : D) (h : DHp) (Q : DK) : Prop := match x, y with
  | .int i, .int j => ((-(2 ^ 64) < i ∧ i < 2 ^ 64) ∨ (-(2 ^ 64) < j ∧ j < 2 ^ 64)) ∧ Q (.int (i * j)) h
  | .str z, .int k => (k < 2 ^ 62 ∧ -(2 ^ 62) < k ∧ z.length * k.toNat ≤ sizeLine) ∧ Q (.str (repD k.toNat z)) h
  | .ref a, .int k => ∃ xs, h a = some (.lst xs) ∧ (-(2 ^ 63) ≤ k ∧ k < 2 ^ 63 ∧ xs.length * k.toNat ≤ sizeLine) ∧ ∀ p, h p = none → Q (.ref p) (put h p (.lst (repD k.toNat xs)))
  | _, _ => False
theorem Reps.rep {K : PySem.W.Frag} {H : Hp} {ds : List D} {vs : List V} (r : Reps K H ds vs) : ∀ n, Reps K H (List.replicate n ds).flatten (List.replicate n vs).flatten
  | 0 => Reps.nil
  | n + 1 => by
    rw [List.replicate_succ, List.replicate_succ, List.flatten_cons, List.flatten_cons]
    exact r.append (Reps.rep r n)
theorem or_mul : OpD X T (binaryOp .Mult) dMul := by
  intro pins s σ H x y v u Q I rx ry hh
  obtain ⟨dx, dy, h, Q', r1, r2, rh, hq, k⟩ := hh
  cases dx <;> cases dy <;> first
    | exact False.elim hq
    | skip
  case int.int i j => exact op_mul pins s σ H x y v u Q I rx ry ⟨i, j, rel_int r1, rel_int r2, hq.1, k.here mk_int rh hq.2⟩
  case ref.int a n =>
    obtain ⟨xs, e, hz, q⟩ := hq
    obtain ⟨vx, _, e2, e3⟩ := sql_lst rh e
    refine op_rep pins s σ H x y v u Q I rx ry ⟨a, n, vx, rel_ref r1, rel_int r2, e3, hz.1, hz.2.1, by rw [e2.length]; exact hz.2.2, fun p np => ?_⟩
    obtain ⟨rh2, x2⟩ := RelH.newList rh np (e2.rep n.toNat)
    exact k _ _ _ _ x2 mk_ref rh2 (q p (rh.fresh np))
  case str.int z n =>
    obtain ⟨⟨h1, h2, h3⟩, q⟩ := hq
    have ex := rel_str r1
    have ey := rel_int r2
    subst ex ey
    obtain ⟨t, rfl⟩ := rx
    obtain ⟨t', rfl⟩ := ry
    have hs := sizeLine_eq
    have hlen : (tx z).length = z.length := tx_len z
    have fin : ∀ (s' : Shared) (t : Tok) (w : List Nat), Inv X pins σ H s' → w = repD n.toNat z → EP X pins σ Q (.str (tx w) t) s' := fun s' t w I' e => by
      subst e
      exact ⟨.str _, H, I', ⟨t, rfl⟩, k.here mk_str rh q⟩
    refine PySem.P.mul_str (by rw [decide_eq_false (by omega), decide_eq_false (by omega)]; rfl) (fun h1 hb => ?_) (fun h1 hb => ?_) ?_
    · rw [hlen]
      have hn : 1 ≤ n := by omega
      have a1 : (z.length : Int) ≤ 2 ^ 30 := by
        have : z.length * 1 ≤ z.length * n.toNat := Nat.mul_le_mul_left _ (by omega)
        omega
      have a2 : n ≤ 2 ^ 30 ∨ z.length = 0 := by
        rcases Nat.eq_zero_or_pos z.length with e | e
        · exact .inr e
        · left
          have : 1 * n.toNat ≤ z.length * n.toNat := Nat.mul_le_mul_right _ e
          omega
      rcases a2 with a2 | a2
      · have : (2 : Int) ^ 30 ≤ (2 ^ 63 - 1) / n := by
          rw [Int.le_ediv_iff_mul_le (by omega)]
          have : (2 : Int) ^ 30 * n ≤ 2 ^ 30 * 2 ^ 30 := Int.mul_le_mul_of_nonneg_left a2 (by decide)
          omega
        omega
      · rw [hlen, a2] at hb
        simp at hb
    · rw [hlen]
      unfold Builtin.Str.tooLong
      simp only [decide_eq_false_iff_not]
      omega
    · by_cases hn : n < 1
      · rw [if_pos hn]
        refine ⟨by show (0 : Nat) ≤ sizeLine; omega, ?_⟩
        have e0 : n.toNat = 0 := by omega
        exact fin _ _ [] (I.tok _) (by unfold repD; rw [e0]; rfl)
      · rw [if_neg hn]
        by_cases h1' : (n == 1 || (tx z).length == 0) = true
        · rw [if_pos h1']
          refine fin _ _ z I ?_
          rw [Bool.or_eq_true, beq_iff_eq, beq_iff_eq, hlen] at h1'
          rcases h1' with e | e
          · subst e; unfold repD; simp
          · have : z = [] := List.length_eq_zero_iff.mp e
            subst this
            unfold repD; simp
        · rw [if_neg h1']
          have e : (List.replicate n.toNat (tx z).cps).foldl (fun a b => a ++ b) #[] = (repD n.toNat z).toArray := by
            have := foldl_app n.toNat z []
            simpa [repD] using this
          have e' : (⟨(List.replicate n.toNat (tx z).cps).foldl (fun a b => a ++ b) #[]⟩ : Str) = tx (repD n.toNat z) := by rw [e]
          show Made.post (Made.str ⟨(List.replicate n.toNat (tx z).cps).foldl (fun a b => a ++ b) #[]⟩) _ _
          rw [e']
          exact ⟨by rw [tx_len, repD_len, Nat.mul_comm]; exact h3, fin _ _ _ (I.tok _) rfl⟩
/-- -x -/
def dNeg (ma : ME) : ME := fun δ h Q E => ma δ h (fun x h1 => match x with | .int i => Q (.int (-i)) h1 | _ => False) E
theorem de_neg {W : WX} {a : Expr} {ma : ME} {pos : Pos} (ha : DE X T W a ma) : DE X T W (.UnaryOp .USub a pos) (dNeg ma) := by
  refine pe_imp (pe_un un_neg ha) ?_
  rintro σ H Q ⟨δ, h, Q', E', rs, rh, q, k, kx⟩
  refine ⟨δ, h, _, E', rs, rh, q, fun v d H1 h1 x1 r1 rh1 q1 => ?_, kx⟩
  cases d with
  | int i => exact ⟨i, rel_int r1, k _ _ _ _ x1 mk_int rh1 q1⟩
  | _ => exact False.elim q1

/-! ### chains of two comparisons -/
def dChain (rd rd' : D → D → DHp → DK → Prop) (ma mb mc : ME) : ME := fun δ h Q E => ma δ h (fun x h1 => mb δ h1 (fun y h2 => rd x y h2 fun z h3 => onB z fun b => (b = true → mc δ h3 (fun w h4 => rd' y w h4 Q) E) ∧ (b = false → Q (.bl false) h3)) E) E
theorem up_chain {W : WX} {a b c : Expr} {ma mb mc : ME} {rd rd' : D → D → DHp → DK → Prop} : ∀ σ H Q, up (cn X T) W (dChain rd rd' ma mb mc) σ H Q → tChain (upO (cn X T) rd) (upO (cn X T) rd') (up (cn X T) W ma) (up (cn X T) W mb) (up (cn X T) W mc) σ H Q := by
  rintro σ H Q ⟨δ, h, Q', E', rs, rh, hm, k, kx⟩
  refine ⟨δ, h, _, E', rs, rh, hm, fun x dx H1 h1 x1 r1 rh1 q1 => ?_, kx⟩
  refine ⟨δ, h1, _, E', rs.keep (x1.keeps rh), rh1, q1, fun y dy H2 h2 x2 r2 rh2 q2 => ?_, kx.after x1⟩
  refine ⟨dx, dy, h2, _, Rep.keep (x2.keeps rh1) _ _ r1, r2, rh2, q2, fun z dz H3 h3 x3 r3 rh3 q3 => ?_⟩
  have x13 := x1.trans (x2.trans x3)
  cases dz with
  | bl b =>
    refine ⟨b, rel_bl r3, ?_⟩
    cases b with
    | true =>
      rw [if_pos rfl]
      refine ⟨δ, h3, _, E', rs.keep (x13.keeps rh), rh3, q3.1 rfl, fun w' dw H4 h4 x4 r4 rh4 q4 => ?_, kx.after x13⟩
      exact ⟨dy, dw, h4, Q', Rep.keep (x4.keeps rh3) _ _ (Rep.keep (x3.keeps rh2) _ _ r2), r4, rh4, q4, k.after (x13.trans x4)⟩
    | false =>
      rw [if_neg Bool.false_ne_true]
      exact k _ _ _ _ x13 mk_bl rh3 (q3.2 rfl)
  | _ => exact False.elim q3
theorem de_chain {W : WX} {a b c : Expr} {ma mb mc : ME} {rd rd' : D → D → DHp → DK → Prop} {op op' : CmpOp} {pos : Pos} (ho : OpD X T (compareOp op) rd) (ho' : OpD X T (compareOp op') rd') (ha : DE X T W a ma) (hb : DE X T W b mb) (hc : DE X T W c mc)
    (hm : lastMarks [op, op'] [b, c] = false := by with_unfolding_all rfl) : DE X T W (.Compare a [op, op'] [b, c] pos) (dChain rd rd' ma mb mc) := pe_imp (pe_chain ho ho' ha hb hc hm) (up_chain (a := a) (b := b) (c := c))
theorem dt_chain {W : WX} {a b c : Expr} {ma mb mc : ME} {rd rd' : D → D → DHp → DK → Prop} {op op' : CmpOp} {pos : Pos} (ho : OpD X T (compareOp op) rd) (ho' : OpD X T (compareOp op') rd') (ha : DE X T W a ma) (hb : DE X T W b mb) (hc : DE X T W c mc)
    (hm : lastMarks [op, op'] [b, c] = false := by with_unfolding_all rfl) : DT X T W (.Compare a [op, op'] [b, c] pos) (dTest (dChain rd rd' ma mb mc)) := pt_imp (pt_chain ho ho' ha hb hc hm) (up_test (up_chain (a := a) (b := b) (c := c)))

/-! ### subscripts -/
theorem atI_map {α β : Type} (f : α → β) (xs : List α) (i : Int) : atI (xs.map f) i = (atI xs i).map f := by
  unfold atI
  rw [List.length_map]
  cases ixN xs.length i with
  | none => rfl
  | some j => simp
theorem Reps.at {K : PySem.W.Frag} {H : Hp} {ds : List D} {vs : List V} {i : Int} {d : D} (r : Reps K H ds vs) (e : atI ds i = some d) : ∃ v, atI vs i = some v ∧ Rep K H d v := by
  unfold atI at e ⊢
  rw [r.length]
  cases q : ixN ds.length i with
  | none => rw [q] at e; cases e
  | some j =>
    rw [q] at e
    exact r.get e
/-- xs[i], t[i], s[i] -/
def dIx (x y : D) (h : DHp) (Q : DK) : Prop := match x, y with
  | .str z, .int i => z.length ≤ sizeLine ∧ ∃ c, atI z i = some c ∧ Q (.str [c]) h
  | .tup xs, .int i => ∃ d, atI xs i = some d ∧ Q d h
  | .ref a, .int i => ∃ xs d, h a = some (.lst xs) ∧ atI xs i = some d ∧ Q d h
  | .scr ns, .int i => ∃ n, atI ns i = some n ∧ Q (.int n) h
  | _, _ => False
def IxD (X : Cx) (T : Tb) (rd : D → D → DHp → DK → Prop) : Prop := IxR X (upO (cn X T) rd)
theorem ix_d : IxD X T dIx := by
  intro value slice pins s σ H x y v u Q I rx ry hh hs
  obtain ⟨dx, dy, h, Q', r1, r2, rh, hq, k⟩ := hh
  cases dx <;> cases dy <;> first
    | exact False.elim hq
    | skip
  case str.int z i =>
    obtain ⟨hz, c, e, q⟩ := hq
    exact ix_str value slice pins s σ H x y v u Q I rx ry ⟨tx z, i, c, rel_str r1, rel_int r2, by rw [tx_len]; exact hz, by simpa using e, k.here (by simp only [Rep]) rh q⟩ hs
  case ref.int a i =>
    obtain ⟨xs, d, e1, e, q⟩ := hq
    obtain ⟨vx, sq, e2, e3⟩ := sql_lst rh e1
    obtain ⟨w, e4, rw'⟩ := e2.at e
    exact ix_list value slice pins s σ H x y v u Q I rx ry ⟨a, vx, i, w, rel_ref r1, rel_int r2, sq, e4, k.here rw' rh q⟩ hs
  case tup.int xs i =>
    obtain ⟨d, e, q⟩ := hq
    obtain ⟨a, vx, ea, t, e2⟩ := rel_tup r1
    obtain ⟨w, e4, rw'⟩ := e2.at e
    exact ix_tup value slice pins s σ H x y v u Q I rx ry ⟨a, vx, i, w, ea, rel_int r2, t.sqt, e4, k.here rw' rh q⟩ hs
  case scr.int ns i =>
    obtain ⟨n, e, q⟩ := hq
    obtain ⟨a, ea, sq⟩ := rep_scr r1
    exact ix_list value slice pins s σ H x y v u Q I rx ry ⟨a, _, i, .int n, ea, rel_int r2, sq, by rw [atI_map, e]; rfl, k.here mk_int rh q⟩ hs
theorem de_ix {W : WX} {a b : Expr} {ma mb : ME} {pos : Pos} {rd : D → D → DHp → DK → Prop} (hr : IxD X T rd) (ha : DE X T W a ma) (hb : DE X T W b mb) (hs : PlainIx b) : DE X T W (.Subscript a b pos) (dOp rd ma mb) := pe_imp (pe_ix hr ha hb hs) (up_op rfl)
/-- slices: the parts -/
abbrev MO := DSt → DHp → (Option Int → DHp → Prop) → DX → Prop
def upP (c : Cn) (W : WX) (m : MO) : TO := fun σ H Q => ∃ δ h Q' E', RelS c H δ σ ∧ RelH c H h ∧ m δ h Q' E' ∧ (∀ o H' h', Ext h h' H H' → RelH c H' h' → Q' o h' → Q o H') ∧ BkX c h H E' W σ
abbrev DO' (X : Cx) (T : Tb) (W : WX) (e : Option Expr) (m : MO) : Prop := PO X e (upP (cn X T) W m)
def dNoPart : MO := fun _ h Q _ => Q none h
def dPart (m : ME) : MO := fun δ h Q E => m δ h (fun d h1 => match d with | .int i => Q (some i) h1 | _ => False) E
theorem po_imp {e : Option Expr} {t u : TO} (h : PO X e t) (i : ∀ σ H Q, u σ H Q → t σ H Q) : PO X e u := ⟨fun pins s σ H Q I q => h.run pins s σ H Q I (i σ H Q q)⟩
theorem do_none {W : WX} : DO' X T W none dNoPart := by
  refine po_imp po_none ?_
  rintro σ H Q ⟨δ, h, Q', E', rs, rh, q, k, kx⟩
  exact k _ _ _ Ext.refl rh q
theorem do_some {W : WX} {e : Expr} {m : ME} (he : DE X T W e m) : DO' X T W (some e) (dPart m) := by
  refine po_imp (po_some he) ?_
  rintro σ H Q ⟨δ, h, Q', E', rs, rh, q, k, kx⟩
  refine ⟨δ, h, _, E', rs, rh, q, fun v d H1 h1 x1 r1 rh1 q1 => ?_, kx⟩
  cases d with
  | int i => exact ⟨i, rel_int r1, k _ _ _ x1 rh1 q1⟩
  | _ => exact False.elim q1
/-- xs[lo:hi] -/
def cutD {α : Type} (xs : List α) (lo hi : Option Int) : List α := (xs.drop (HT.sIx xs.length 0 lo)).take (HT.sIx xs.length xs.length hi - HT.sIx xs.length 0 lo)
def dCut (x : D) (lo hi : Option Int) (h : DHp) (Q : DK) : Prop := match x with
  | .str z => z.length ≤ sizeLine ∧ Q (.str (cutD z lo hi)) h
  | .tup xs => Q (.tup (cutD xs lo hi)) h
  | .ref a => ∃ xs, h a = some (.lst xs) ∧ ∀ p, h p = none → Q (.ref p) (put h p (.lst (cutD xs lo hi)))
  | .scr ns => ∀ p, h p = none → Q (.ref p) (put h p (.lst ((cutD ns lo hi).map D.int)))
  | _ => False
def upSl (c : Cn) : V → Option Int → Option Int → Hp → VK → Prop := fun x lo hi H Q => ∃ d h Q', Rep c.K H d x ∧ RelH c H h ∧ dCut d lo hi h Q' ∧ Bk c h H Q' Q
theorem cutD_map {α β : Type} (f : α → β) (xs : List α) (lo hi : Option Int) : cutD (xs.map f) lo hi = (cutD xs lo hi).map f := by
  unfold cutD
  rw [List.length_map, List.map_take, List.map_drop]
theorem cutV_D (xs : List V) (lo hi : Option Int) : cutV xs lo hi = cutD xs lo hi := rfl
theorem Reps.cut {K : PySem.W.Frag} {H : Hp} {ds : List D} {vs : List V} (r : Reps K H ds vs) (lo hi : Option Int) : Reps K H (cutD ds lo hi) (cutV vs lo hi) := by
  unfold cutD cutV
  rw [r.length]
  exact (r.drop _).take _
theorem cutS_D (z : List Nat) (lo hi : Option Int) : cutS (tx z) lo hi = tx (cutD z lo hi) := by
  unfold cutS cutD
  rw [tx_len]
theorem cutD_whole {α : Type} (xs : List α) {lo hi : Option Int} (h : HT.sIx xs.length 0 lo = 0 ∧ HT.sIx xs.length xs.length hi = xs.length) : cutD xs lo hi = xs := by
  unfold cutD
  rw [h.1, h.2]
  simp
theorem sl_d : SlR X (upSl (cn X T)) := by
  intro pins s σ H x v vl vu lo hi sl Q I rx hs pl pu hh
  obtain ⟨d, h, Q', r, rh, q, k⟩ := hh
  cases d with
  | str z => exact sl_str pins s σ H x v vl vu lo hi sl Q I rx hs pl pu ⟨tx z, rel_str r, by rw [tx_len]; exact q.1, by rw [cutS_D]; exact k.here mk_str rh q.2⟩
  | ref a =>
    obtain ⟨xs, e1, q⟩ := q
    obtain ⟨vx, sq, e2, e3⟩ := sql_lst rh e1
    refine sl_list pins s σ H x v vl vu lo hi sl Q I rx hs pl pu ⟨a, vx, rel_ref r, sq, fun p n => ?_⟩
    obtain ⟨rh2, x2⟩ := RelH.newList rh n (e2.cut lo hi)
    exact k _ _ _ _ x2 mk_ref rh2 (q p (rh.fresh n))
  | scr ns =>
    obtain ⟨a, ea, sq⟩ := rep_scr r
    refine sl_list pins s σ H x v vl vu lo hi sl Q I rx hs pl pu ⟨a, _, ea, sq, fun p n => ?_⟩
    have r2 : Reps X.K H ((cutD ns lo hi).map D.int) (cutV (ns.map V.int) lo hi) := by rw [cutV_D, cutD_map]; exact reps_ints _
    obtain ⟨rh2, x2⟩ := RelH.newList rh n r2
    exact k _ _ _ _ x2 mk_ref rh2 (q p (rh.fresh n))
  | tup xs =>
    obtain ⟨a, vx, ea, t, e2⟩ := rel_tup r
    have hl := e2.length
    refine sl_tupA pins s σ H x v vl vu lo hi sl Q I rx hs pl pu ⟨a, vx, ea, t.sqt, fun hw => ?_, fun hw p n => ?_⟩
    · rw [hl] at hw
      have q : Q' (.tup (cutD xs lo hi)) h := q
      rw [cutD_whole xs hw] at q
      exact k.here (mk_tup t e2) rh q
    · obtain ⟨rh2, x2⟩ := rh.hid (u := .tup (cutV vx lo hi)) n
      exact k _ _ _ _ x2 (mk_tup (.inl upd_same) (Reps.keep (keeps_new n) _ _ (e2.cut lo hi))) rh2 q
  | _ => exact False.elim q
def dSl (m : ME) (ml mh : MO) : ME := fun δ h Q E => m δ h (fun x h1 => ml δ h1 (fun l h2 => mh δ h2 (fun u h3 => dCut x l u h3 Q) E) E) E
theorem de_slice {W : WX} {e : Expr} {lo hi : Option Expr} {m : ME} {ml mh : MO} {pos p2 : Pos} (he : DE X T W e m) (hl : DO' X T W lo ml) (hu : DO' X T W hi mh) : DE X T W (.Subscript e (.Slice lo hi none p2) pos) (dSl m ml mh) := by
  refine pe_imp (pe_slice (sl_d (T := T)) he hl hu) ?_
  rintro σ H Q ⟨δ, h, Q', E', rs, rh, q, k, kx⟩
  refine ⟨δ, h, _, E', rs, rh, q, fun v d H1 h1 x1 r1 rh1 q1 => ?_, kx⟩
  refine ⟨δ, h1, _, E', rs.keep (x1.keeps rh), rh1, q1, fun l H2 h2 x2 rh2 q2 => ?_, kx.after x1⟩
  refine ⟨δ, h2, _, E', rs.keep ((x1.trans x2).keeps rh), rh2, q2, fun u H3 h3 x3 rh3 q3 => ?_, kx.after (x1.trans x2)⟩
  exact ⟨d, h3, Q', Rep.keep (x3.keeps rh2) _ _ (Rep.keep (x2.keeps rh1) _ _ r1), rh3, q3, k.after (x1.trans (x2.trans x3))⟩
/-! ### xs[i] = v -/
def upSet (c : Cn) (rd : D → D → D → DHp → (DHp → Prop) → Prop) : TSet := fun o i v H Q => ∃ dO dI dv h Q', Rep c.K H dO o ∧ Rep c.K H dI i ∧ Rep c.K H dv v ∧ RelH c H h ∧ rd dO dI dv h Q' ∧ ∀ H' h', Ext h h' H H' → RelH c H' h' → Q' h' → Q H'
abbrev SetD (X : Cx) (T : Tb) (rd : D → D → D → DHp → (DHp → Prop) → Prop) : Prop := PSet X (upSet (cn X T) rd)
def dSetL (o i v : D) (h : DHp) (Q : DHp → Prop) : Prop := match o, i with
  | .ref a, .int n => ∃ xs j, h a = some (.lst xs) ∧ ixN xs.length n = some j ∧ Q (put h a (.lst (xs.set j v)))
  | _, _ => False
theorem set_l : SetD X T dSetL := by
  intro pins s σ H o i v ov iv u Q I ro ri rv hh
  obtain ⟨dO, dI, dv, h, Q', r1, r2, r3, rh, q, k⟩ := hh
  match dO, dI, q, r1, r2 with
  | .ref a, .int n, ⟨xs, j, e, hj, q⟩, r1, r2 =>
    obtain ⟨vx, sq, e2, e3⟩ := sql_lst rh e
    obtain ⟨rh2, x2⟩ := rh.reList e e3 (Reps.set r3 j e2)
    exact set_list pins s σ H o i v ov iv u Q I ro ri rv ⟨a, vx, n, j, rel_ref r1, rel_int r2, e3, by rw [e2.length]; exact hj, k _ _ x2 rh2 q⟩
def dgSub (mo mi : ME) (rd : D → D → D → DHp → (DHp → Prop) → Prop) : D → DSt → DHp → (DSt → DHp → Prop) → DX → Prop := fun d δ h Q E => mo δ h (fun o h1 => mi δ h1 (fun i h2 => rd o i d h2 (Q δ)) E) E
def dSetI (mo mi me : ME) (rd : D → D → D → DHp → (DHp → Prop) → Prop) : MS := fun D δ h => me δ h (fun d h1 => dgSub mo mi rd d δ h1 D.nx (exE D.ex δ)) (exE D.ex δ)
theorem ds_setI {W : WX} {o i e : Expr} {mo mi me : ME} {rd : D → D → D → DHp → (DHp → Prop) → Prop} {p pos : Pos} (hr : SetD X T rd) (ho : DE X T W o mo) (hi : DE X T W i mi) (he : DE X T W e me)
    (ha : ∀ v, assign (.Subscript o i p) X.env v = (do
      let ov ← holding [v] (eval o X.env)
      let iv ← holding [v, ov] (eval i X.env)
      standAt p
      holding [v, ov, iv] (setItem ov iv v)
      release [v, ov, iv] []) := by intro _; rfl)
    (hs : swapsWithSole [.Subscript o i p] e pos.line X.env = pure false := by rfl) (hw : swappedStores [.Subscript o i p] e X.env = pure none := by rfl)
    (h1 : (assignEach [.Subscript o i p] X.env).map (·.2) = [assign (.Subscript o i p) X.env] := by rfl) : DS X T W (.Assign [.Subscript o i p] e pos) (dSetI mo mi me rd) := by
  refine ps_imp (ps_asg he (pg_sub ho hi hr ha) hs hw h1) ?_
  rintro Z σ H ⟨δ, h, DD, rs, rh, q, k⟩
  refine ⟨δ, h, _, _, rs, rh, q, fun v d H1 h1 x1 r1 rh1 q1 => ?_, k.ex.expr rs rh⟩
  have rs1 := rs.keep (x1.keeps rh)
  refine ⟨δ, h1, _, _, rs1, rh1, q1, fun ov dO H2 h2 x2 r2 rh2 q2 => ?_, (k.ex.after x1).expr rs1 rh1⟩
  have rs2 := rs1.keep (x2.keeps rh1)
  refine ⟨δ, h2, _, _, rs2, rh2, q2, fun iv dI H3 h3 x3 r3 rh3 q3 => ?_, (k.ex.after (x1.trans x2)).expr rs2 rh2⟩
  have rs3 := rs2.keep (x3.keeps rh2)
  refine ⟨dO, dI, d, h3, _, Rep.keep (x3.keeps rh2) _ _ r2, r3, Rep.keep (x3.keeps rh2) _ _ (Rep.keep (x2.keeps rh1) _ _ r1), rh3, q3, fun H' h' x' rh' q' => ?_⟩
  exact k.nx _ _ _ _ (x1.trans (x2.trans (x3.trans x'))) (rs3.keep (x'.keeps rh3)) rh' q'
end
end Tw
/-! A dict comprehension with a store of any kind. -/
namespace Tw
open PySem PySem.Spec PyProof.Rows L2
abbrev TSt := Addr → V → V → Hp → (Hp → Prop) → Prop
/-- o0: the new dict; st: d[y] = z of it -/
structure StoreOk (X : Cx) (o0 : Addr → HO) (st : TSt) : Prop where
  new : ∀ (H : Hp) (h : Heap), sysModules < h.objs.size → ObjOk X.prog X.w H (h.push { cls := .type "dict", data := .dict #[] }) h.objs.size (o0 h.objs.size)
  put : ∀ (Y : Cx), Y.prog = X.prog → Y.w = X.w → Y.K = X.K → Y.A = X.A → ∀ (pins : List (Addr × Obj)) (s : Shared) (σ : L2.St) (H : Hp) (p : Addr) (y z : V) (u r : Value) (N : Hp → Prop) (E : Value → Shared → Prop),
    Inv Y pins σ H s → RelV y u → RelV z r → st p y z H N → wpAny (model X.prog X.w) X.A (dictSet p u r) (fun _ s' => ∃ H', Inv Y pins σ H' s' ∧ N H') E s
abbrev BlkP (X : Cx) (scope : Scope) (f : Cx → Prop) : Prop := ∀ (s : Shared) (H : Hp) (C : Addr) (cl : List (Str × Addr)) (fp : List Addr), f (X.blk s H scope (compEnvC scope cl C X.env) fp)
section
variable {X : Cx}
def tDcG (o0 : Addr → HO) (st : TSt) (wi : TI) (g : TG) (tt : TT) (tk tv : TE) (vs : List Nat) : TE := fun σ H Q => wi σ H fun J H1 => ∀ p, H1 p = none → (p == sysModules) = false → ∃ V : Nat → Nat → Hp → Prop, (∃ m, V 0 m (upd H1 p (o0 p))) ∧
  ∀ i m H, V i m H → (J.stop i H ∧ Q (.ref p) H) ∨ (J.go i H ∧ ∃ N : Hp → Prop, (∀ H', N H' → ∃ m', m' < m ∧ V (i + 1) m' H') ∧
    ∀ x H', J.yld i H x H' → g x (L2.wipe σ vs) H' fun σ2 H2 => L2.wipe σ2 vs = L2.wipe σ vs ∧ tt σ2 H2 fun b H3 => match b with
      | true => tk σ2 H3 fun y H4 => tv σ2 H4 fun z H5 => st p y z H5 N
      | false => N H3)
theorem pe_dcG {kx vx tg iter : Expr} {ifs : List Expr} {scope : Scope} {own : List (Str × Nat)} {pos : Pos} {o0 : Addr → HO} {st : TSt} {wi : TI} {g : TG} {tt : TT} {tk tv : TE} (so : StoreOk X o0 st) (calm : X.calm = true) (nod : X.N.Nodup) (hi : PI X tg iter wi) (ok : BlkOk X.N X.env.scope scope own)
    (hg : BlkP X scope fun Y => PG Y tg g) (ht : BlkP X scope fun Y => PTs Y ifs tt) (hk : BlkP X scope fun Y => PE Y kx tk) (hv : BlkP X scope fun Y => PE Y vx tv)
    (hs : ∀ x, foldedSetIterable iter X.env x = pure x := by intro _; rfl) : PE X (.DictComp kx vx [⟨tg, iter, ifs, 0⟩] scope pos) (tDcG o0 st wi g tt tk tv (own.map (·.2))) := by
  refine ⟨fun pins s σ H Q I h => ?_⟩
  rw [arm_eval_DictComp]
  have caught : ∀ y ∈ scope.names, y.2 = .free → ∃ c, X.env.cells.lookup y.1 = some c := fun y hy e => (ok.free y hy e).elim (fun k => I.ok.has _ (.inl k)) fun k => I.ok.has _ (.inr k)
  refine wpAny_comprehension_free (use := none) rfl hs (closure_ok caught) ok.kind (fun y hy e => by rw [ok.uniq y hy, e]) (thn (hi.run pins s σ H _ I h) fun w1 sA hA => thn hA fun w2 sI hI => ?_)
  obtain ⟨it, fp, tn, J, HI, ew, II, T, stI, fI, q⟩ := hI
  subst ew
  refine wpAny_newObj_type (newEnv_comp ?_)
  generalize ep : sI.heap.objs.size = p
  have np : HI p = none := II.hok.fresh (Nat.le_of_eq ep)
  obtain ⟨V, ⟨m0, v0⟩, turn⟩ := q p np (beq_eq_false_iff_ne.mpr (by rw [← ep]; exact Ne.symm (Nat.ne_of_lt II.big)))
  generalize eD : ({ sI with heap := sI.heap.push { cls := .type "dict", data := .dict #[] } } : Shared) = sD
  have ID : Inv X pins σ (upd HI p (o0 p)) sD := by
    rw [← eD]
    have z := so.new (upd HI p (o0 p)) sI.heap II.big
    rw [ep] at z
    exact II.laid (t' := sI.toks) (fun b o e => Heap.get?_push_of_some _ e) (Nat.le_of_eq ep) z
  have hD : sD.heap = sI.heap.push { cls := .type "dict", data := .dict #[] } := by rw [← eD]
  have fD : ∀ b ∈ fp, FpOk X pins (upd HI p (o0 p)) b ∧ b < sD.heap.objs.size := fun b hb => by
    obtain ⟨o, e, _⟩ := T.obj _ _ stI b hb
    have lt := Heap.lt_size e
    have ne : b ≠ p := by rw [← ep]; exact Nat.ne_of_lt lt
    exact ⟨⟨by rw [upd_ne ne]; exact (fI b hb).1, (fI b hb).2⟩, by rw [hD, Heap.size_push]; exact Nat.lt_succ_of_lt lt⟩
  have stD : tn 0 sD.heap := T.keep _ _ _ stI fun b _ o e => by rw [hD]; exact Heap.get?_push_of_some _ e
  have IB := block_start ID ok nod fD
  generalize eC : sD.heap.objs.size = C at IB
  have g1 := hg sD (upd HI p (o0 p)) C (cellsFrom (C + 1) scope.names (cloFrom X.env.cells scope.names [])) fp
  have g2 := ht sD (upd HI p (o0 p)) C (cellsFrom (C + 1) scope.names (cloFrom X.env.cells scope.names [])) fp
  have g3 := hk sD (upd HI p (o0 p)) C (cellsFrom (C + 1) scope.names (cloFrom X.env.cells scope.names [])) fp
  have g4 := hv sD (upd HI p (o0 p)) C (cellsFrom (C + 1) scope.names (cloFrom X.env.cells scope.names [])) fp
  have hidden : ∀ b ∈ fp, (upd HI p (o0 p)) b = none := fun b hb => (fD b hb).1.1
  generalize eH : upd HI p (o0 p) = HD at ID IB g1 g2 g3 g4 v0 hidden fD
  show codeAny _ _ (.compStart _ 0 (.ref it) (.ref p) (compEnvC scope (cellsFrom (C + 1) scope.names (cloFrom X.env.cells scope.names [])) C X.env)) (compPost (model X.prog X.w) X.A X.xe none _ (.ref p) C) { sD with heap := pushCells (sD.heap.push { cls := .type "dict", data := .dict #[] }) scope.names }
  generalize ee : compEnvC scope (cellsFrom (C + 1) scope.names (cloFrom X.env.cells scope.names [])) C X.env = ce at IB g1 g2 g3 g4 ⊢
  have loc : ce.locals = C := by subst ee; rfl
  generalize eB : ({ sD with heap := pushCells (sD.heap.push { cls := .type "dict", data := .dict #[] }) scope.names } : Shared) = sB at IB ⊢
  have stB : tn 0 sB.heap := T.keep _ _ _ stD fun b _ o e => by rw [← eB]; exact pushCells_keeps _ _ _ _ (Heap.get?_push_of_some _ e)
  have fin : ∀ {τ : L2.St} {H' : Hp} {s' : Shared}, Inv (X.blk sD HD scope ce fp) [] τ H' s' → (∀ b ∈ fp, H' b = none) → ∀ b ∈ fp, FpOk (X.blk sD HD scope ce fp) [] H' b := fun {τ H' s'} I' n b hb =>
    ⟨n b hb, (I'.ok.exf b hb).1, I'.ok.exfs b hb, .inl hb, fun x c e => (I'.ok.exf b hb).2 x c e, fun r hr => absurd (show r ∈ ([] : List (Addr × Obj)) ++ [] from hr) (by simp)⟩
  have loop : codeAny (model X.prog X.w) X.A (.compLoop (.DictComp kx vx [⟨tg, iter, ifs, 0⟩] scope pos) 0 (.ref it) (.ref p) ce) (compPost (model X.prog X.w) X.A X.xe none (EP X pins σ Q) (.ref p) C) sB := by
    refine compLoop_anyD (fun n s' => ∃ i H', Inv (X.blk sD HD scope ce fp) [] (L2.wipe σ (own.map (·.2))) H' s' ∧ tn i s'.heap ∧ (∀ b ∈ fp, H' b = none) ∧ V i n H') ?_ m0 ⟨0, HD, IB, stB, hidden, v0⟩
    rintro n s5 ⟨i, H5, I5, st5, n5, v5⟩
    rcases turn i n H5 v5 with ⟨stop, done⟩ | ⟨go, N, less, step⟩
    · refine thnF (T.done (X.blk sD HD scope ce fp) rfl rfl rfl calm i [] s5 _ H5 (fun _ _ => False) I5 (fin I5 n5) st5 stop) fun r s6 ⟨er, I6⟩ => ?_
      subst er
      have I7 : Inv X pins σ H5 s6 := ID.call' (ch := fp) I6.os I6.base I6.hok I6.bare fun b hb => by
        obtain ⟨_, f1, f2, f3, f4, f5⟩ := (fD b hb).1
        exact ⟨f3, f1, f4, f5⟩
      obtain ⟨m, hm, _⟩ := I6.loc
      have hm : s6.heap.Ns ce.locals m := hm
      have fr : H5 ce.locals = none := I6.free
      rw [loc] at hm fr
      obtain ⟨k0, k1, k2, k3, k4, k5⟩ := ID.fpOk (H' := H5) (Nat.le_of_eq eC) fr
      refine ⟨m, hm, fun h'' sb => ⟨.ref p, H5, I7.turned (t' := s6.toks) (fun b o hb e => (sb.2 b hb).trans e) k0 k1 k3 k4 k5, rfl, done⟩⟩
    · refine thnF (T.item (X.blk sD HD scope ce fp) rfl rfl rfl calm i [] s5 _ H5 (fun _ _ => False) I5 (fin I5 n5) st5 go) fun r s6 ⟨u, er, h6⟩ => ?_
      subst er
      refine thnF h6 fun _ s7 ⟨x, H7, I7, r7, y7, st7, n7⟩ => ?_
      refine thnF (g1.run _ s7 _ H7 x u _ (I7.pinned (fin I7 n7) (T.obj _ _ st7)) r7 (step x H7 y7)) fun _ s8 ⟨τ, H8, I8, same, q8⟩ => ?_
      have back : ∀ {s' : Shared} {H' : Hp}, Inv (X.blk sD HD scope ce fp) ([] ++ pinsAt fp s7.heap) τ H' s' → N H' → ∃ m, m < n ∧ ∃ i H', Inv (X.blk sD HD scope ce fp) [] (L2.wipe σ (own.map (·.2))) H' s' ∧ tn i s'.heap ∧ (∀ b ∈ fp, H' b = none) ∧ V i m H' := fun {s' H'} I' nx => by
        obtain ⟨m', hm, v'⟩ := less H' nx
        have keep : ∀ b ∈ fp, ∀ o, s7.heap.get? b = some o → s'.heap.get? b = some o ∧ H' b = none := fun b hb o e => by
          have z := I'.pin (b, o) (List.mem_append_right _ (List.mem_append_right _ (mem_pinsAt hb e)))
          exact ⟨z.1, z.2.1⟩
        refine ⟨m', hm, i + 1, H', (I'.unpinned (pins := [])).weak (by rw [← same, L2.wipe_length]) (fun j v e => by rw [← same] at e; exact (wipe_some e).1), T.keep _ _ _ st7 fun b hb o e => (keep b hb o e).1, fun b hb => ?_, v'⟩
        obtain ⟨o, e, _⟩ := T.obj _ _ st7 b hb
        exact (keep b hb o e).2
      refine thnF (g2.run _ s8 τ H8 _ I8 q8) fun b s9 ⟨H9, I9, q9⟩ => ?_
      cases b with
      | false => exact back I9 q9
      | true =>
        refine thnF (g3.run _ s9 τ H9 _ I9 q9) fun w s10 ⟨yk, H10, I10, r10, q10⟩ => ?_
        refine thnF (g4.run _ s10 τ H10 _ I10 q10) fun w' s11 ⟨yv, H11, I11, r11, q11⟩ => ?_
        exact thn (so.put (X.blk sD HD scope ce fp) rfl rfl rfl rfl _ s11 τ H11 p yk yv w w' N _ I11 r10 r11 q11) fun _ s12 ⟨H12, I12, nx⟩ => back I12 nx
  exact codeAny_compStart_dict loop (T.self X.A 0 _ _ _ stB loop)
end
end Tw
/-! Dicts whose keys are tuples, over data. -/
namespace Tw
open PySem PySem.Spec PyProof.Rows L2
section
variable {X : Cx} {pins : List (Addr × Obj)} {σ : L2.St} {H : Hp} {s : Shared}
mutual
/-- data that is a key is that key in the heap -/
theorem nested_of (I : Inv X pins σ H s) : ∀ (d : D) (k : NestedKey) (v : V) (u : Value), keyD d = some k → Rep X.K H d v → RelV v u → NestedIs s.heap k u
  | .non, k, v, u, e, r, rv => by
    rw [rel_non r] at rv
    cases rv
    simp only [keyD, Option.some.injEq] at e
    subst e
    exact .none
  | .bl b, k, v, u, e, r, rv => by
    rw [rel_bl r] at rv
    cases rv
    simp only [keyD, Option.some.injEq] at e
    subst e
    exact .bool rfl
  | .int i, k, v, u, e, r, rv => by
    rw [rel_int r] at rv
    obtain ⟨t, rfl⟩ := rv
    simp only [keyD, Option.some.injEq] at e
    subst e
    exact .int i t
  | .str x, k, v, u, e, r, rv => by
    rw [rel_str r] at rv
    obtain ⟨t, rfl⟩ := rv
    simp only [keyD, Option.some.injEq] at e
    subst e
    exact .text _ t
  | .tup ds, k, v, u, e, r, rv => by
    obtain ⟨a, xs, ev, t, rr⟩ := rel_tup r
    subst ev
    cases rv
    simp only [keyD, Option.map_eq_some_iff] at e
    obtain ⟨ks, e1, e2⟩ := e
    subst e2
    obtain ⟨its, r1, ⟨o, h1, h2, n, h3⟩, _⟩ := I.tuple t.sqt
    exact .tup h1 h2 h3 (nested_ofs I ds ks xs its e1 rr r1)
  | .ty _, k, v, u, e, r, rv => by simp [keyD] at e
  | .ref _, k, v, u, e, r, rv => by simp [keyD] at e
  | .scr _, k, v, u, e, r, rv => by simp [keyD] at e
  | .fn _, k, v, u, e, r, rv => by simp [keyD] at e
theorem nested_ofs (I : Inv X pins σ H s) : ∀ (ds : List D) (ks : List NestedKey) (vs : List V) (us : List Value), keyDs ds = some ks → Reps X.K H ds vs → Vals vs us → NestedAll s.heap ks us
  | [], ks, vs, us, e, r, rv => by
    simp only [keyDs, Option.some.injEq] at e
    subst e
    simp only [Reps] at r
    subst r
    cases rv
    exact .nil
  | d :: ds, ks, vs, us, e, r, rv => by
    simp only [Reps] at r
    obtain ⟨x, z, ez, r1, r2⟩ := r
    subst ez
    cases rv with
    | cons q1 q2 =>
      simp only [keyDs] at e
      cases e1 : keyD d with
      | none => simp [e1] at e
      | some k =>
        cases e2 : keyDs ds with
        | none => simp [e1, e2] at e
        | some ks' =>
          simp only [e1, e2, Option.some.injEq] at e
          subst e
          exact .cons (nested_of I d k x _ e1 r1 q1) (nested_ofs I ds ks' z _ e2 r2 q2)
end
end
/-- one entry -/
def ERel (c : Cn) (H : Hp) (p : List D × D) (x : NestedKey × Addr × Value) : Prop :=
  keyD (.tup p.1) = some x.1 ∧ x.1.depth ≤ 8 ∧ Rep c.K H (.tup p.1) (.ref x.2.1) ∧ ∃ v, RelV v x.2.2 ∧ Rep c.K H p.2 v
abbrev ent (prog : Program) (w : World) (x : NestedKey × Addr × Value) : DictEntry := entryOfKey (nestedKind prog w) x
theorem ent_at {prog : Program} {c : Cn} {H : Hp} : ∀ {kvs : List (List D × D)} {es : List DictEntry}, EReps c H kvs es → ∃ xs : List (NestedKey × Addr × Value), es = xs.map (ent prog c.w) ∧ Paired (ERel c H) kvs xs
  | [], _, r => ⟨[], r, .nil⟩
  | p :: ps, _, ⟨e, r, q, ⟨k, b, v, e1, e0, e2, e3, e4, e5, e6⟩, t⟩ => by
    obtain ⟨xs, h1, h2⟩ := ent_at (prog := prog) t
    refine ⟨(k, b, e.val) :: xs, ?_, .cons ⟨e1, e0, e4, v, e5, e6⟩ h2⟩
    obtain ⟨hh, ek, ev⟩ := e
    simp only at e2 e3
    subst e2 e3
    rw [q, h1]
    rfl
theorem ent_of {prog : Program} {c : Cn} {H : Hp} : ∀ {kvs : List (List D × D)} {xs : List (NestedKey × Addr × Value)}, Paired (ERel c H) kvs xs → EReps c H kvs (xs.map (ent prog c.w))
  | _, _, .nil => rfl
  | _, _, .cons ⟨e1, e0, e4, v, e5, e6⟩ t => ⟨_, _, rfl, ⟨_, _, v, e1, e0, rfl, rfl, e4, e5, e6⟩, ent_of t⟩
theorem ERel.keys {c : Cn} {H : Hp} : ∀ {kvs : List (List D × D)} {xs : List (NestedKey × Addr × Value)}, Paired (ERel c H) kvs xs → (kvs.map fun p => keyD (.tup p.1)) = (xs.map (·.1)).map some
  | _, _, .nil => rfl
  | _, _, .cons h t => by rw [List.map_cons, List.map_cons, List.map_cons, h.1, ERel.keys t]
theorem nodup_some {α : Type} {xs : List α} : (xs.map some).Nodup ↔ xs.Nodup := by
  induction xs with
  | nil => simp
  | cons x xs ih => rw [List.map_cons, List.nodup_cons, List.nodup_cons, ih]; simp
/-- d[k] = v -/
def sameK (k : List D) (p : List D × D) : Bool := decide (keyD (.tup p.1) = keyD (.tup k))
def putT (kvs : List (List D × D)) (k : List D) (v : D) : List (List D × D) := if kvs.any (sameK k) then kvs.map fun p => if sameK k p then (p.1, v) else p else kvs ++ [(k, v)]
def valT (kvs : List (List D × D)) (k : List D) : Option D := (kvs.find? (sameK k)).map (·.2)
theorem same_key {c : Cn} {H : Hp} {p : List D × D} {x : NestedKey × Addr × Value} {k : List D} {kk : NestedKey} (r : ERel c H p x) (e : keyD (.tup k) = some kk) : sameK k p = decide (x.1 = kk) := by
  unfold sameK
  rw [r.1, e]
  simp
theorem find_rel {c : Cn} {H : Hp} {k : List D} {kk : NestedKey} (e : keyD (.tup k) = some kk) : ∀ {kvs : List (List D × D)} {xs : List (NestedKey × Addr × Value)}, Paired (ERel c H) kvs xs →
    (kvs.find? (sameK k) = none ∧ xs.find? (fun x => decide (x.1 = kk)) = none) ∨ ∃ p x, kvs.find? (sameK k) = some p ∧ xs.find? (fun x => decide (x.1 = kk)) = some x ∧ ERel c H p x
  | _, _, .nil => .inl ⟨rfl, rfl⟩
  | p :: ps, x :: xs, .cons h t => by
    have q := same_key h e
    cases b : sameK k p with
    | true =>
      rw [b] at q
      exact .inr ⟨p, x, by rw [List.find?_cons, b], by rw [List.find?_cons, ← q], h⟩
    | false =>
      rw [b] at q
      rcases find_rel e t with ⟨a1, a2⟩ | ⟨p', x', a1, a2, a3⟩
      · exact .inl ⟨by rw [List.find?_cons, b]; exact a1, by rw [List.find?_cons, ← q]; exact a2⟩
      · exact .inr ⟨p', x', by rw [List.find?_cons, b]; exact a1, by rw [List.find?_cons, ← q]; exact a2, a3⟩
theorem any_find {α : Type} (f : α → Bool) (xs : List α) : xs.any f = (xs.find? f).isSome := by
  induction xs with
  | nil => rfl
  | cons x xs ih => rw [List.any_cons, List.find?_cons]; cases f x <;> simp [ih]
theorem put_rel {c : Cn} {H : Hp} {k : List D} {kk : NestedKey} {b : Addr} {v : D} {u : Value} {kvs : List (List D × D)} {xs : List (NestedKey × Addr × Value)} (e : keyD (.tup k) = some kk) (hz : kk.depth ≤ 8) (r : Paired (ERel c H) kvs xs) (rk : Rep c.K H (.tup k) (.ref b)) (rv : ∃ w, RelV w u ∧ Rep c.K H v w) :
    Paired (ERel c H) (putT kvs k v) (storedH xs kk b u) := by
  have key : (kvs.any (sameK k)) = (atKey xs kk).isSome := by
    rw [any_find]
    unfold atKey
    rw [Option.isSome_map]
    rcases find_rel e r with ⟨a1, a2⟩ | ⟨p', x', a1, a2, a3⟩
    · rw [a1, a2]; rfl
    · rw [a1, a2]; rfl
  unfold putT storedH
  rw [key]
  cases (atKey xs kk).isSome with
  | true =>
    simp only [if_true]
    clear key
    induction r with
    | nil => exact .nil
    | @cons p x ps xs h t ih =>
      rw [List.map_cons, List.map_cons]
      refine .cons ?_ ih
      have q := same_key h e
      unfold putAt
      by_cases z : x.1 = kk
      · rw [decide_eq_true z] at q
        rw [q, if_pos rfl, if_pos z]
        exact ⟨h.1, h.2.1, h.2.2.1, rv⟩
      · rw [decide_eq_false z] at q
        rw [q, if_neg Bool.false_ne_true, if_neg z]
        exact h
  | false =>
    simp only [Bool.false_eq_true, if_false]
    clear key
    induction r with
    | nil => exact .cons ⟨e, hz, rk, rv⟩ .nil
    | cons h t ih => rw [List.cons_append, List.cons_append]; exact .cons h ih
section
variable {X : Cx} {pins : List (Addr × Obj)} {σ : L2.St} {H : Hp} {s : Shared} {c : Cn}
theorem is_of (I : Inv X pins σ H s) (ec : c.K = X.K) {p : List D × D} {x : NestedKey × Addr × Value} (r : ERel c H p x) : (nestedKind X.prog X.w).is s.heap x.1 x.2.1 := by
  refine ⟨?_, r.2.1⟩
  have z := r.2.2.1
  rw [ec] at z
  exact nested_of I _ _ _ _ r.1 z rfl
/-- the tracked dict as the library's -/
theorem dth_of (I : Inv X pins σ H s) (ec : c.K = X.K) (ew : c.w = X.w) {a : Addr} {es : Array DictEntry} {kvs : List (List D × D)} (e : H a = some (rawD a es)) (r : EReps c H kvs es.toList) (nd : (kvs.map fun p => keyD (.tup p.1)).Nodup) :
    ∃ xs, s.heap.DictOfH (nestedKind X.prog X.w) a xs ∧ Paired (ERel c H) kvs xs ∧ es.toList = xs.map (ent X.prog X.w) := by
  obtain ⟨xs, h1, h2⟩ := ent_at (prog := X.prog) r
  rw [ew] at h1
  obtain ⟨⟨o, ep, q1, q2, q3⟩, _⟩ := (show ObjOk X.prog X.w H s.heap a (rawD a es) from I.hok a _ e)
  refine ⟨xs, ⟨o, es, ep, q1, q2, q3, h1, fun x hx => ?_, ?_⟩, h2, h1⟩
  · have : ∀ {kvs : List (List D × D)} {xs : List (NestedKey × Addr × Value)}, Paired (ERel c H) kvs xs → ∀ x ∈ xs, ∃ p, ERel c H p x := by
      intro kvs xs pr
      induction pr with
      | nil => intro x hx; cases hx
      | cons h t ih =>
        intro x hx
        rcases List.mem_cons.mp hx with e | hx
        · subst e; exact ⟨_, h⟩
        · exact ih x hx
    obtain ⟨p, hp⟩ := this h2 x hx
    exact is_of I ec hp
  · rw [ERel.keys h2] at nd
    exact nodup_some.mp nd
theorem raw_ok {P : Program} {w : World} {H : Hp} {h : Heap} {a : Addr} {xs : List (NestedKey × Addr × Value)} (d : h.DictOfH (nestedKind P w) a xs) : ∃ es : Array DictEntry, es.toList = xs.map (ent P w) ∧ ObjOk P w H h a (rawD a es) := by
  obtain ⟨o, es, ep, h1, h2, h3, h4, h5, h6⟩ := d
  refine ⟨es, h4, ⟨o, ep, h1, h2, h3⟩, ⟨o, h1⟩, fun ha hb ⟨o, ep, q1, q2, q3⟩ k => ⟨o, ep, k o q1, q2, q3⟩⟩
/-- what a dict with tuple keys is, as far as H says -/
structure DthAt (c : Cn) (H : Hp) (a : Addr) (es : Array DictEntry) (kvs : List (List D × D)) : Prop where
  at_ : H a = some (rawD a es)
  ents : EReps c H kvs es.toList
  nd : (kvs.map fun p => keyD (.tup p.1)).Nodup
  sm : (a == sysModules) = false
theorem keyNd {kvs : List (List D × D)} {k : List D} {v : D} {kk : NestedKey} (e : keyD (.tup k) = some kk) (nd : (kvs.map fun p => keyD (.tup p.1)).Nodup) : ((putT kvs k v).map fun p => keyD (.tup p.1)).Nodup := by
  unfold putT
  split
  · have : ((kvs.map fun p => if sameK k p = true then (p.1, v) else p).map fun p => keyD (.tup p.1)) = kvs.map fun p => keyD (.tup p.1) := by
      rw [List.map_map]
      refine List.map_congr_left fun p _ => ?_
      show keyD (.tup (if sameK k p = true then (p.1, v) else p).1) = _
      split <;> rfl
    rw [this]
    exact nd
  · rename_i h
    rw [List.map_append, List.nodup_append]
    refine ⟨nd, by simp, fun x hx y hy => ?_⟩
    simp only [List.map_cons, List.map_nil, List.mem_singleton] at hy
    subst hy
    obtain ⟨p, hp, e1⟩ := List.mem_map.mp hx
    intro e2
    apply h
    rw [List.any_eq_true]
    exact ⟨p, hp, by unfold sameK; rw [e1, e2]; simp⟩
/-- the store -/
def stT (c : Cn) : TSt := fun p y z H N => ∃ (es : Array DictEntry) (kvs : List (List D × D)) (k : List D) (v : D), DthAt c H p es kvs ∧ Rep c.K H (.tup k) y ∧ Rep c.K H v z ∧ (∃ kk, keyD (.tup k) = some kk ∧ kk.depth ≤ 8) ∧ kvs.length ≤ sizeLine ∧
  ∀ es', DthAt c (upd H p (rawD p es')) p es' (putT kvs k v) → N (upd H p (rawD p es'))
theorem keeps_raw {a : Addr} {es es' : Array DictEntry} (e : H a = some (rawD a es)) : Keeps H (upd H a (rawD a es')) :=
  ⟨fun b xs q => by rw [upd_ne (fun z => by subst z; rw [e] at q; cases q)]; exact q, fun b ob z q => by rw [upd_ne (fun y => by subst y; rw [e] at q; cases q)]; exact q⟩
theorem put_t (I : Inv X pins σ H s) (hu : X.A.units + 8 < cLine) {T : Tb} {p : Addr} {y z : V} {u r : Value} {N : Hp → Prop} {E : Value → Shared → Prop} (ry : RelV y u) (rz : RelV z r) (h : stT (cn X T) p y z H N) :
    wpAny (model X.prog X.w) X.A (dictSet p u r) (fun _ s' => ∃ H', Inv X pins σ H' s' ∧ N H') E s := by
  obtain ⟨es, kvs, k, v, d, rk, rv, ⟨kk, ek, hz⟩, hl, n⟩ := h
  obtain ⟨xs, dx, px, ex⟩ := dth_of (c := cn X T) I rfl rfl d.at_ d.ents d.nd
  obtain ⟨b, ws, ey, t, rr⟩ := rel_tup rk
  subst ey
  cases ry
  have len : xs.length = kvs.length := px.length.symm
  refine wpAny_dictSet_heap (knd := nestedKind X.prog X.w) (k := kk) hu ⟨nested_of I _ _ _ _ ek rk rfl, hz⟩ dx (fun h' d' sb => ?_) (by omega)
  obtain ⟨es', e4, ok⟩ := raw_ok (H := upd H p (rawD p es)) d'
  have kp := keeps_raw (es' := es') d.at_
  have pr := put_rel (c := cn X T) (v := v) (u := r) ek hz px rk ⟨z, rz, rv⟩
  have er := ent_of (prog := X.prog) pr
  have d2 : DthAt (cn X T) (upd H p (rawD p es')) p es' (putT kvs k v) := ⟨upd_same, by rw [e4]; exact EReps.keep kp _ _ er, keyNd ek d.nd, d.sm⟩
  refine ⟨upd H p (rawD p es'), ?_, n es' d2⟩
  obtain ⟨o, _, ep, o1, _⟩ := id d'
  refine d_write I (by rw [d.at_]; exact True.intro) sb ⟨o, o1⟩ ?_
  obtain ⟨es2, e5, ok2⟩ := raw_ok (H := upd H p (rawD p es')) d'
  have : es2 = es' := by
    apply Array.toList_inj.mp
    rw [e5, e4]
  subst this
  exact ok2
theorem store_t (hu : X.A.units + 8 < cLine) (T : Tb) : StoreOk X (fun a => rawD a #[]) (stT (cn X T)) := by
  refine ⟨fun H h hb => ?_, ?_⟩
  · obtain ⟨es, e, ok⟩ := raw_ok (H := H) (Heap.DictOfH.new (knd := nestedKind X.prog X.w) h)
    have : es = #[] := by
      apply Array.toList_inj.mp
      rw [e]
      rfl
    subst this
    exact ok
  · intro Y e1 e2 e3 e4 pins s σ H p y z u r N E I ry rz h
    have : cn X T = cn Y T := by simp only [cn, e2, e3]
    rw [this] at h
    rw [← e1, ← e2, ← e4]
    exact put_t I (by rw [e4]; exact hu) ry rz h
end
end Tw
/-! Dict comprehensions with tuple keys; sorted, over data. -/
namespace Tw
open PySem PySem.Spec PyProof.Rows L2
/-- what D does not see is seen -/
theorem RelH.show_ {c : Cn} {h : DHp} {H : Hp} {p : Addr} {o : DO} (rh : RelH c H h) (r : ObR c H p o) : RelH c H (put h p o) := by
  refine ⟨fun a u ea => ?_, rh.tabs⟩
  by_cases q : a = p
  · subst q
    rw [put_same] at ea
    cases ea
    exact r
  · rw [put_ne q] at ea
    exact rh.at_ a u ea
theorem noCode_raw {a : Addr} {es : Array DictEntry} : NoCode (rawD a es) := fun b q z => by
  have z' := congrFun (HO.ext.inj z) { objs := Array.replicate (a + 1) { cls := .type "dict", data := .dict es 0 } }
  have l : ∃ o ep, Heap.get? { objs := Array.replicate (a + 1) ({ cls := .type "dict", data := .dict es 0 } : Obj) } a = some o ∧ o.ExactDict ∧ o.data = .dict es ep := by
    refine ⟨{ cls := .type "dict", data := .dict es 0 }, 0, ?_, ⟨rfl, rfl, rfl⟩, rfl⟩
    unfold Heap.get?
    simp
  have r := z'.mp l
  obtain ⟨oc, vs, t, e, d, _⟩ := r
  unfold Heap.get? at e
  by_cases hb : b < a + 1
  · rw [Array.getElem?_eq_getElem (by simpa using hb)] at e
    simp at e
    subst e
    cases d
  · rw [Array.getElem?_eq_none (by simpa using hb)] at e
    cases e
theorem RelH.hidRaw {c : Cn} {h : DHp} {H : Hp} {p : Addr} {es es' : Array DictEntry} (rh : RelH c H h) (e : H p = some (rawD p es)) (n : h p = none) : RelH c (upd H p (rawD p es')) h := by
  have k : Keeps H (upd H p (rawD p es')) := keeps_raw e
  refine ⟨fun a o ea => ?_, fun q hq => ?_⟩
  · have na : a ≠ p := fun z => by subst z; rw [n] at ea; cases ea
    exact (rh.at_ a o ea).keep k (upd_ne na)
  · obtain ⟨ps, t1, t2, t3⟩ := rh.tabs q hq
    refine ⟨ps, by rw [upd_ne (fun z => by subst z; rw [e] at t1; cases t1)]; exact t1, t2, fun pos cv hc => ?_⟩
    obtain ⟨b, e1, e2⟩ := t3 pos cv hc
    exact ⟨b, e1, by rw [upd_ne fun y => by subst y; rw [e] at e2; exact noCode_raw _ _ (Option.some.inj e2)]; exact e2⟩
/-- a key that the library takes -/
def okKey (k : List D) : Prop := ∃ kk, keyD (.tup k) = some kk ∧ kk.depth ≤ 8
def DcB (p : Pat) (tt : MT) (mk mv : ME) (vs : List Nat) (δ : DSt) (Q : DK) (ds : List D) (ok : DHp → Prop) (h1 : DHp) : Prop := ∃ V : Nat → List (List D × D) → DHp → Prop, V 0 [] h1 ∧ ∀ i acc h, V i acc h → ok h ∧
  (i = ds.length → ∀ q, h q = none → Q (.ref q) (put h q (.dth acc))) ∧
  ∀ d, ds[i]? = some d → ∃ δ2, patB p d (dwipe δ vs) = some δ2 ∧ tt δ2 h (fun b h3 => (b = true → mk δ2 h3 (fun y h4 => mv δ2 h4 (fun z h5 => match y with
      | .tup k => okKey k ∧ acc.length ≤ sizeLine ∧ V (i + 1) (putT acc k z) h5
      | _ => False) nox) nox) ∧
    (b = false → V (i + 1) acc h3)) nox
def dDcT (mi : MI) (p : Pat) (tt : MT) (mk mv : ME) (vs : List Nat) : ME := fun δ h Q E => mi δ h (fun ds ok h1 => DcB p tt mk mv vs δ Q ds ok h1) E
/-- keys and values that leave the heap as it is -/
def putTs (acc : List (List D × D)) (kvs : List (List D × D)) : List (List D × D) := kvs.foldl (fun a p => putT a p.1 p.2) acc
theorem putT_len (acc : List (List D × D)) (k : List D) (v : D) : (putT acc k v).length ≤ acc.length + 1 := by
  unfold putT
  split
  · rw [List.length_map]; omega
  · rw [List.length_append]; simp
theorem putTs_len : ∀ (kvs acc : List (List D × D)), (putTs acc kvs).length ≤ acc.length + kvs.length
  | [], acc => by simp [putTs]
  | p :: kvs, acc => by
    have h1 := putT_len acc p.1 p.2
    have h2 := putTs_len kvs (putT acc p.1 p.2)
    show (putTs (putT acc p.1 p.2) kvs).length ≤ _
    rw [List.length_cons]
    omega
theorem dcB_map {p : Pat} {mk mv : ME} {vs : List Nat} {δ : DSt} {Q : DK} {ds : List D} {ok : DHp → Prop} {h : DHp} (f : D → List D) (g : D → D) (hok : ok h) (hz : ds.length ≤ sizeLine)
    (he : ∀ d ∈ ds, okKey (f d) ∧ ∃ δ2, patB p d (dwipe δ vs) = some δ2 ∧ (∀ K : DK, K (.tup (f d)) h → mk δ2 h K nox) ∧ ∀ K : DK, K (g d) h → mv δ2 h K nox)
    (q : ∀ r, h r = none → Q (.ref r) (put h r (.dth (putTs [] (ds.map fun d => (f d, g d)))))) : DcB p dYes mk mv vs δ Q ds ok h := by
  refine ⟨fun i acc h' => h' = h ∧ i ≤ ds.length ∧ acc = putTs [] ((ds.take i).map fun d => (f d, g d)), ⟨rfl, Nat.zero_le _, rfl⟩, ?_⟩
  rintro i acc h' ⟨rfl, hi, rfl⟩
  refine ⟨hok, fun e r n => ?_, fun d hd => ?_⟩
  · subst e
    rw [List.take_length]
    exact q r n
  · obtain ⟨hlt, hd'⟩ := List.getElem?_eq_some_iff.mp hd
    obtain ⟨okk, δ2, e1, e2, e3⟩ := he d (List.mem_of_getElem? hd)
    refine ⟨δ2, e1, fun _ => e2 _ (e3 _ ⟨okk, ?_, rfl, hlt, ?_⟩), fun z => by cases z⟩
    · have := putTs_len ((ds.take i).map fun d => (f d, g d)) []
      rw [List.length_map, List.length_take, List.length_nil, Nat.zero_add] at this
      omega
    · rw [← hd', List.take_succ_eq_append_getElem hlt, List.map_append]
      unfold putTs
      rw [List.foldl_append]
      rfl
section
variable {X : Cx} {T : Tb} {W : WX} {kx vx tg iter : Expr} {ifs : List Expr} {scope : Scope} {own : List (Str × Nat)} {pos : Pos} {mi : MI} {p : Pat} {tt : MT} {mk mv : ME}
theorem DthAt.keep {c : Cn} {H H' : Hp} {a : Addr} {es : Array DictEntry} {kvs : List (List D × D)} (d : DthAt c H a es kvs) (k : Keeps H H') (e : H' a = some (rawD a es)) : DthAt c H' a es kvs := ⟨e, EReps.keep k _ _ d.ents, d.nd, d.sm⟩
theorem up_dcT (hv : ∀ i ∈ patV p, i ∈ own.map (·.2)) : ∀ σ H Q, up (cn X T) W (dDcT mi p tt mk mv (own.map (·.2))) σ H Q →
    tDcG (fun a => rawD a #[]) (stT (cn X T)) (upI (cn X T) W mi) (patG X.K p) (upT (cn X T) WF tt) (up (cn X T) WF mk) (up (cn X T) WF mv) (own.map (·.2)) σ H Q := by
  rintro σ H Q ⟨δ, h, Q', E', rs, rh, q, k, kx⟩
  refine ⟨δ, h, _, _, rs, rh, q, fun J ds ok H1 h1 x1 rh1 io q1 L nL sL => ?_, kx⟩
  obtain ⟨V, v0, turn⟩ := q1
  obtain ⟨rh1', x1'⟩ := rh1.hid (u := rawD L #[]) nL
  have nL1 : h1 L = none := rh1.fresh nL
  -- what holds at each turn
  let S : Nat → Hp → Prop := fun i H' => ∃ acc es h', (∀ a o, a ≠ L → h1 a = none → H1 a = some o → (∀ ps, o ≠ .tbl ps) → H' a = some o ∧ h' a = none) ∧ Keeps H1 H' ∧ RelH (cn X T) H' h' ∧ h' L = none ∧ DthAt (cn X T) H' L es acc ∧ V i acc h'
  refine ⟨fun i mm H' => mm = ds.length - i ∧ i ≤ ds.length ∧ S i H', ⟨ds.length, rfl, Nat.zero_le _, [], #[], h1, fun a o na n e nt => ⟨by rw [upd_ne na]; exact e, n⟩, keeps_new nL, rh1', nL1, ⟨upd_same, rfl, List.nodup_nil, sL⟩, v0⟩, ?_⟩
  rintro i mm H2 ⟨em, hi, acc, es, h2, x2, k2, rh2, n2, d2, v2⟩
  obtain ⟨ok2, fin, step⟩ := turn i acc h2 v2
  by_cases hlt : i < ds.length
  · refine .inr ⟨io.go i H2 h2 k2 rh2 ok2 hlt, S (i + 1), fun H' z => ⟨ds.length - (i + 1), by omega, rfl, hlt, z⟩, fun x H3 y => ?_⟩
    have hd : ds[i]? = some ds[i] := List.getElem?_eq_getElem hlt
    obtain ⟨r3, rh3, x3⟩ := io.yld i H2 x H3 h2 _ k2 rh2 ok2 hd y
    obtain ⟨δ2, hp, q3⟩ := step _ hd
    have kH : Keeps H H3 := by
      have a := x1.keeps rh
      have b := x3.keeps rh2
      exact ⟨fun c xs e => b.1 _ _ (k2.1 _ _ (a.1 _ _ e)), fun c o z e => b.2 _ _ _ (k2.2 _ _ _ (a.2 _ _ _ e))⟩
    refine pat_ok (c := cn X T) p _ x _ δ2 _ _ hp r3 ((rs.keep kH).wipe _) fun σ2 rs2 w2 => ⟨?_, ?_⟩
    · rw [w2 _ hv]
      have ww : ∀ (l vs : List Nat), (∀ i ∈ l, i ∈ vs) → L2.wipe (L2.wipe σ l) vs = L2.wipe σ vs := by
        intro l
        induction l with
        | nil => intro vs _; rfl
        | cons a l ih =>
          intro vs hl
          show L2.wipe ((L2.wipe σ l).set a none) vs = _
          rw [wipe_set _ _ vs (hl a (by simp)), ih vs fun i hi => hl i (by simp [hi])]
      exact ww _ _ fun i hi => hi
    · have nt : ∀ ps, rawD L es ≠ .tbl ps := fun ps z => by cases z
      have e3 : H3 L = some (rawD L es) := x3.same n2 d2.at_ nt
      have d3 := d2.keep (x3.keeps rh2) e3
      refine ⟨δ2, h2, _, nox, rs2, rh3, q3, fun b H4 h4 x4 rh4 q4 => ?_, fun _ _ _ _ _ z => z⟩
      have e4 : H4 L = some (rawD L es) := x4.same n2 e3 nt
      have d4 := d3.keep (x4.keeps rh3) e4
      have n4 : h4 L = none := (x4 L _ n2 e3 (fun _ z => by cases z)).2
      have x24 := x3.trans x4
      have thr : ∀ {H' : Hp} {h' : DHp}, Ext h2 h' H2 H' → ∀ a o, a ≠ L → h1 a = none → H1 a = some o → (∀ ps, o ≠ .tbl ps) → H' a = some o ∧ h' a = none := fun {H' h'} xx a o na n e nt => by
        obtain ⟨e1, m1⟩ := x2 a o na n e nt
        exact xx a o m1 e1 nt
      have kpt : ∀ {H' : Hp} {h' : DHp}, Ext h2 h' H2 H' → Keeps H1 H' := fun {H' h'} xx => by
        have b := xx.keeps rh2
        exact ⟨fun c xs e => b.1 _ _ (k2.1 _ _ e), fun c o z e => b.2 _ _ _ (k2.2 _ _ _ e)⟩
      cases b with
      | false => exact ⟨acc, es, h4, thr x24, kpt x24, rh4, n4, d4, q4.2 rfl⟩
      | true =>
        refine ⟨δ2, h4, _, nox, rs2.keep (x4.keeps rh3), rh4, q4.1 rfl, fun y dy H5 h5 x5 r5 rh5 q5 => ?_, fun _ _ _ _ _ z => z⟩
        have e5 : H5 L = some (rawD L es) := x5.same n4 e4 nt
        have d5 := d4.keep (x5.keeps rh4) e5
        have n5 : h5 L = none := (x5 L _ n4 e4 (fun _ z => by cases z)).2
        have x25 := x24.trans x5
        refine ⟨δ2, h5, _, nox, (rs2.keep (x4.keeps rh3)).keep (x5.keeps rh4), rh5, q5, fun z dz H6 h6 x6 r6 rh6 q6 => ?_, fun _ _ _ _ _ z => z⟩
        have e6 : H6 L = some (rawD L es) := x6.same n5 e5 nt
        have d6 := d5.keep (x6.keeps rh5) e6
        have n6 : h6 L = none := (x6 L _ n5 e5 (fun _ z => by cases z)).2
        have x26 := x25.trans x6
        cases dy with
        | tup key =>
          obtain ⟨okk, hz, q6⟩ := q6
          refine ⟨es, acc, key, dz, d6, Rep.keep (x6.keeps rh5) _ _ r5, r6, okk, hz, fun es' d7 => ?_⟩
          refine ⟨putT acc key dz, es', h6, fun a o na n e nt => ?_, ?_, rh6.hidRaw e6 n6, n6, d7, q6⟩
          · obtain ⟨e1, m1⟩ := thr x26 a o na n e nt
            exact ⟨by rw [upd_ne na]; exact e1, m1⟩
          · have b := kpt x26
            have k6 : Keeps H6 (upd H6 L (rawD L es')) := keeps_raw e6
            exact ⟨fun c xs e => k6.1 _ _ (b.1 _ _ e), fun c o z e => k6.2 _ _ _ (b.2 _ _ _ e)⟩
        | _ => exact False.elim q6
  · have hi3 : i = ds.length := by omega
    subst hi3
    refine .inl ⟨io.stop H2 h2 k2 rh2 ok2, ?_⟩
    have rh3 := rh2.show_ (p := L) (o := .dth acc) ⟨es, d2.at_, d2.ents, d2.nd, d2.sm⟩
    refine k _ _ H2 (put h2 L (.dth acc)) (fun a o n e nt => ?_) mk_ref rh3 (fin rfl L n2)
    obtain ⟨e1, m1⟩ := x1 a o n e nt
    have na : a ≠ L := fun z => by subst z; rw [nL] at e1; cases e1
    obtain ⟨e2', m2⟩ := x2 a o na m1 e1 nt
    exact ⟨e2', by rw [put_ne na]; exact m2⟩
theorem de_dcT (hc : X.calm = true) (hN : X.N.Nodup) (hu : X.A.units + 8 < cLine) (hi : DI X T W tg iter mi) (ok : BlkOk X.N X.env.scope scope own) (hv : ∀ i ∈ patV p, i ∈ own.map (·.2))
    (hg : BlkP X scope fun Y => PG Y tg (patG X.K p)) (ht : BlkP X scope fun Y => DTs Y T ifs tt) (hk : BlkP X scope fun Y => DE Y T WF kx mk) (he : BlkP X scope fun Y => DE Y T WF vx mv) (hs : ∀ x, foldedSetIterable iter X.env x = pure x := by intro _; rfl) :
    DE X T W (.DictComp kx vx [⟨tg, iter, ifs, 0⟩] scope pos) (dDcT mi p tt mk mv (own.map (·.2))) :=
  pe_imp (pe_dcG (X := X) (tk := up (cn X T) WF mk) (tv := up (cn X T) WF mv) (tt := upT (cn X T) WF tt) (store_t hu T) hc hN hi ok hg (fun s H C cl fp => (ht s H C cl fp).t) hk he hs) (up_dcT hv)
end

/-! ### sorted -/
/-- the items in Python's order, by the data ps of them -/
def sortD (ds : List D) (ps : List PyData) : List D := ((ds.zip ps).mergeSort (PySem.W.dataLe false (·.2))).map (·.1)
section
variable {X : Cx} {T : Tb} {pins : List (Addr × Obj)} {σ : L2.St} {H : Hp} {s : Shared} {h : DHp} {c : Cn}
def SR (c : Cn) (H : Hp) (u : Value) (b : D × PyData) : Prop := ∃ v, RelV v u ∧ Rep c.K H b.1 v
theorem each_of (I : Inv X pins σ H s) (rh : RelH (cn X T) H h) : ∀ {ds : List D} {ps : List PyData} {vs : List V} {us : List Value}, PyA h ds ps → Reps X.K H ds vs → Vals vs us →
    PySem.W.EachIs (SR (cn X T) H) us (ds.zip ps) ∧ PySem.W.EachIs (fun u b => ∃ as, Reads s.heap u (Prod.snd b) as) us (ds.zip ps)
  | [], _, _, _, .nil, r, rv => by
    simp only [Reps] at r
    subst r
    cases rv
    exact ⟨.nil, .nil⟩
  | d :: ds, _, _, _, .cons y1 y2, r, rv => by
    simp only [Reps] at r
    obtain ⟨x, z, ez, r1, r2⟩ := r
    subst ez
    cases rv with
    | cons q1 q2 =>
      obtain ⟨a1, a2⟩ := each_of I rh y2 r2 q2
      exact ⟨.cons ⟨x, q1, r1⟩ a1, .cons (Dp.reads I _ _ _ (y1.dp rh _ _ _ r1) q1) a2⟩
theorem sr_out : ∀ {us : List Value} {bs : List (D × PyData)}, PySem.W.EachIs (SR c H) us bs → ∃ vs, Reps c.K H (bs.map (·.1)) vs ∧ Vals vs us
  | _, _, .nil => ⟨[], Reps.nil, .nil⟩
  | _, _, .cons ⟨v, r1, r2⟩ t => by
    obtain ⟨vs, q1, q2⟩ := sr_out t
    exact ⟨v :: vs, Reps.cons r2 q1, .cons r1 q2⟩
theorem pya_len : ∀ {ds : List D} {ps : List PyData}, PyA h ds ps → ds.length = ps.length
  | _, _, .nil => rfl
  | _, _, .cons _ t => by simp [pya_len t]
theorem zip_snd : ∀ {ds : List D} {ps : List PyData}, ds.length = ps.length → (ds.zip ps).map (·.2) = ps
  | [], [], _ => rfl
  | d :: ds, p :: ps, e => by simp [zip_snd (ds := ds) (ps := ps) (by simpa using e)]
/-- what is sorted: the items of a list, the keys of a dict -/
def sortItems (d : D) (h : DHp) : Option (List D) := match d with
  | .ref a => match h a with
    | some (.lst ds) => some ds
    | some (.dth kvs) => some (kvs.map fun p => .tup p.1)
    | _ => none
  | _ => none
def bSorted : RC := fun ds h Q => match ds with
  | [d] => ∃ xs ps, sortItems d h = some xs ∧ PyA h xs ps ∧ PySem.W.AllAlike ps ∧ PySem.W.Sortable ps ∧ (∀ p ∈ ps, p.depth ≤ 60) ∧ xs.length ≤ sizeLine ∧ ∀ q, h q = none → Q (.ref q) (put h q (.lst (sortD xs ps)))
  | _ => False
theorem keys_vals {xs : List (NestedKey × Addr × Value)} {kvs : List (List D × D)} (r : Paired (ERel c H) kvs xs) : Reps c.K H (kvs.map fun p => .tup p.1) (xs.map fun x => .ref x.2.1) ∧ Vals (xs.map fun x => V.ref x.2.1) (xs.map fun x => Value.ref x.2.1) := by
  induction r with
  | nil => exact ⟨Reps.nil, .nil⟩
  | cons h t ih =>
    rw [List.map_cons, List.map_cons, List.map_cons]
    exact ⟨Reps.cons h.2.2.1 ih.1, .cons rfl ih.2⟩
theorem list_eq_at {α : Type} : ∀ {xs ys : List α}, xs.length = ys.length → (∀ (j : Nat) (v : α), xs[j]? = some v → ys[j]? = some v) → xs = ys
  | [], [], _, _ => rfl
  | x :: xs, y :: ys, h, f => by
    have e := f 0 x (by simp)
    simp at e
    subst e
    rw [list_eq_at (xs := xs) (ys := ys) (by simpa using h) fun j v q => by simpa using f (j + 1) v (by simpa using q)]
theorem cd_sorted (hc : X.calm = true) (hu : X.A.units + 64 < cLine) : CD X T (.builtin "sorted") bSorted := by
  intro pins s σ H vs us Q I rv hh
  obtain ⟨ds, h, Q', r, rh, q, k⟩ := hh
  match ds, q, r with
  | [d], ⟨items, ps, ei, py, hal, hk, hd, hz, q⟩, r =>
    obtain ⟨v, ev, r1⟩ := reps1 r
    subst ev
    obtain ⟨u, eu, ru⟩ := vals1 rv
    subst eu
    have hps := zip_snd (pya_len py)
    have hlen : (items.zip ps).length = items.length := by rw [List.length_zip, ← pya_len py, Nat.min_self]
    cases d with
    | ref a =>
      rw [rel_ref r1] at ru
      obtain rfl : u = Value.ref a := ru
      simp only [sortItems] at ei
      cases eo : h a with
      | none => simp [eo] at ei
      | some o =>
        cases o with
        | lst xs =>
          simp only [eo, Option.some.injEq] at ei
          subst ei
          obtain ⟨ws, _, rr, eH⟩ := sql_lst rh eo
          obtain ⟨its, rvv, pl, _⟩ := I.list (.inl (.inl eH))
          obtain ⟨e1, e2⟩ := each_of (X := X) (T := T) I rh py rr rvv
          refine PySem.W.sorted_data (bs := xs.zip ps) (enc := Prod.snd) pl.isList e1 e2 (by rw [hps]; exact hal) (by rw [hps]; exact hk) (by rw [hlen]; exact hz) (fun b hb => ?_) fun out ho eo2 => ?_
          · have : b.2 ∈ ps := by rw [← hps]; exact List.mem_map.mpr ⟨b, hb, rfl⟩
            have := hd _ this
            omega
          · obtain ⟨ws', q1, q2⟩ := sr_out eo2
            obtain ⟨ep, he'⟩ := PyProof.Rows.sortedAll_at s.heap its out.toArray
            have np : H (s.heap.objs.size + 1) = none := I.hok.fresh (Nat.le_succ _)
            obtain ⟨rh2, x2⟩ := RelH.newList rh np q1
            have l1 : ws'.length ≤ sizeLine := by rw [q2.length, ho, hlen]; exact hz
            exact ⟨.ref _, _, I.laid (t' := s.toks) (o := .lst ws') (fun _ _ => PyProof.Rows.sortedAll_old) (Nat.le_succ _) ⟨l1, out, ep, q2, he'⟩, rfl, k _ _ _ _ x2 mk_ref rh2 (q _ (rh.fresh np))⟩
        | dth kvs =>
          simp only [eo, Option.some.injEq] at ei
          subst ei
          obtain ⟨es, a1, a2, a3, a4⟩ := rh.at_ _ _ eo
          obtain ⟨xs, dx, px, ex⟩ := dth_of (c := cn X T) I rfl rfl a1 a2 a3
          obtain ⟨o, ep, o1, o2, o3⟩ := (show ObjOk X.prog X.w H s.heap a (rawD a es) from I.hok a _ a1).1
          have hes : es.size = xs.length := by rw [← Array.length_toList, ex, List.length_map]
          have hxl : xs.length = kvs.length := px.length.symm
          have hz' : kvs.length ≤ sizeLine := by simpa using hz
          refine Calls.call_function_entry PyProof.Rows.kind_sorted PyProof.Rows.plain_sorted PyProof.Rows.entry_sorted (PyProof.Rows.args_sorted1 _) ?_
          unfold Builtin.«sorted»
          refine wpAny_bind (m := checkCount "sorted" 1 1 _) (wpAny_pure ?_)
          refine wpAny_bind (PySem.W.kdu_collect (A := X.A.in1) (kdl_raw (prog := X.prog) (w := X.w) (d := a) a4 o2 o3) (I.ok.hd hc) o1 (by omega) fun h' tk acc hkp hacc => ?_)
          obtain ⟨rr, vv⟩ := keys_vals px
          have eacc : acc.toList = xs.map fun x => Value.ref x.2.1 := by
            refine list_eq_at (by rw [Array.length_toList, hacc.1, hes, List.length_map]) fun j w e => ?_
            obtain ⟨en, q1, q2⟩ := hacc.2 j w (by rw [← Array.getElem?_toList]; exact e)
            rw [← Array.getElem?_toList, ex, List.getElem?_map] at q1
            rw [List.getElem?_map]
            cases ej : xs[j]? with
            | none => rw [ej] at q1; cases q1
            | some x =>
              rw [ej] at q1
              cases q1
              rw [q2]
              rfl
          have I1 : Inv X pins σ H { s with heap := h', toks := tk } := I.kept hkp
          have hal' : acc.toList.length = kvs.length := by rw [eacc, List.length_map, hxl]
          obtain ⟨e1, e2⟩ := each_of (X := X) (T := T) I1 rh py rr vv
          rw [← eacc] at e1 e2
          refine wpAny_bind (wpAny_newList ?_ (by rw [hal']; exact hz'))
          generalize eL : h'.objs.size = L
          have hoL : (h'.push (seqObj "list" acc.toList.toArray 0)).get? L = some (seqObj "list" acc.toList.toArray 0) := by rw [← eL]; exact Heap.get?_push_size _ rfl
          have er' : PySem.W.EachIs (fun v b => ∃ as, Reads (PySem.W.sortingHeap (h'.push (seqObj "list" acc.toList.toArray 0)) L acc.toList) v (Prod.snd b) as) acc.toList ((kvs.map fun p => D.tup p.1).zip ps) :=
            e2.mono fun _ _ ⟨as, rd⟩ => ⟨as, PyProof.Rows.Reads.keeps (fun b o e => PySem.W.sortingHeap_old (by rw [← eL]; exact Nat.ne_of_lt (Heap.lt_size e)) (Heap.get?_push_of_some _ e)) rd⟩
          refine wpAny_bind (wpAny_holding (wpAny_call_entry PyProof.Rows.slot_list_sort ⟨_, hoL, rfl⟩ PyProof.Rows.entry_list_sort
            (PySem.W.list_sort_vals (s := { s with heap := h'.push (seqObj "list" acc.toList.toArray 0), toks := tk }) (κ := PySem.W.dataKind (PySem.W.sortingHeap (h'.push (seqObj "list" acc.toList.toArray 0)) L acc.toList) (((kvs.map fun p => D.tup p.1).zip ps).map Prod.snd)) hoL
              (PySem.W.SortsAt.data (s := { s with heap := PySem.W.sortingHeap (h'.push (seqObj "list" acc.toList.toArray 0)) L acc.toList, toks := tk }) (PySem.W.each_map (R := fun v d => ∃ as, Reads (PySem.W.sortingHeap (h'.push (seqObj "list" acc.toList.toArray 0)) L acc.toList) v d as) Prod.snd er') (by rw [hps]; exact hal) (by rw [hps]; exact hk) (fun d hd' => ?_)) (by rw [hal']; exact hz') ⟨_, rfl, ?_⟩)
            (PyProof.Rows.args_list_sort _)))
          · rw [hps] at hd'
            have := hd _ hd'
            show X.A.in1.in1.units + d.depth < cLine
            have : X.A.in1.in1.units = X.A.units + 2 := rfl
            omega
          · have so := PySem.W.sortVals_data (enc := Prod.snd) false e1 er' (by rw [hps]; exact hal)
            obtain ⟨ws', q1, q2⟩ := sr_out so
            obtain ⟨e', he'⟩ := PyProof.Rows.sortedHeap_at (vs := acc.toList) (out := (PySem.W.sortVals (PySem.W.dataKind (PySem.W.sortingHeap (h'.push (seqObj "list" acc.toList.toArray 0)) L acc.toList) (((kvs.map fun p => D.tup p.1).zip ps).map Prod.snd)) false acc.toList acc.toList).toArray) hoL
            have np : H L = none := by rw [← eL]; exact I1.hok.fresh (Nat.le_refl _)
            obtain ⟨rh2, x2⟩ := RelH.newList rh np q1
            have l1 : ws'.length ≤ sizeLine := by rw [q2.length, PySem.W.sortVals_length false rfl, hal']; exact hz'
            refine wpAny_pure ⟨_, rfl, .ref L, upd H L (.lst ws'), I1.laid (t' := tk) (fun b u e => ?_) (Nat.le_of_eq eL) ⟨l1, _, e', q2, he'⟩, rfl, k _ _ _ _ x2 mk_ref rh2 (q _ (rh.fresh np))⟩
            have hb : b < h'.objs.size := Heap.lt_size e
            rw [PyProof.Rows.sortedHeap_old (by rw [← eL]; exact Nat.ne_of_lt hb) (by rw [size_push']; exact Nat.lt_succ_of_lt hb)]
            exact Heap.get?_push_of_some _ e
        | _ => simp [eo] at ei
    | _ => simp [sortItems] at ei
end
end Tw
/-! Dicts whose keys are ints and texts, over data. -/
namespace Tw
open PySem PySem.Spec PyProof.Rows L2
abbrev KeyD := Sum Int (List Nat)
theorem ky_inj : ∀ {a b : KeyD}, ky a = ky b → a = b
  | .inl i, .inl j, h => by simp only [ky, Sum.inl.injEq] at h; rw [h]
  | .inr x, .inr y, h => by simp only [ky, Sum.inr.injEq] at h; rw [tx_inj.mp h]
  | .inl _, .inr _, h => by simp [ky] at h
  | .inr _, .inl _, h => by simp [ky] at h
def valC (kvs : List (KeyD × D)) (k : KeyD) : Option D := (kvs.find? fun p => decide (p.1 = k)).map (·.2)
def putC (kvs : List (KeyD × D)) (k : KeyD) (v : D) : List (KeyD × D) := if kvs.any (fun p => decide (p.1 = k)) then kvs.map (fun p => if p.1 = k then (p.1, v) else p) else kvs ++ [(k, v)]
def kyD : D → Option KeyD
  | .int i => some (.inl i)
  | .str x => some (.inr x)
  | _ => none
theorem kyD_V {K : PySem.W.Frag} {H : Hp} {d : D} {k : KeyD} {v : V} (e : kyD d = some k) (r : Rep K H d v) : v = kV (ky k) := by
  cases d with
  | int i => simp only [kyD, Option.some.injEq] at e; subst e; exact rel_int r
  | str x => simp only [kyD, Option.some.injEq] at e; subst e; exact rel_str r
  | _ => simp [kyD] at e
section
variable {c : Cn} {H : Hp}
theorem KReps.length : ∀ {ds : List (KeyD × D)} {xs : List (Key × V)}, KReps c H ds xs → xs.length = ds.length
  | [], _, r => by rw [show _ = _ from r]; rfl
  | _ :: _, _, ⟨x, q, e, r1, r2⟩ => by rw [e, List.length_cons, List.length_cons, r2.length]
theorem KReps.val (k : KeyD) : ∀ {ds : List (KeyD × D)} {xs : List (Key × V)}, KReps c H ds xs → (valC ds k = none ∧ valV xs (ky k) = none) ∨ ∃ d v, valC ds k = some d ∧ valV xs (ky k) = some v ∧ Rep c.K H d v
  | [], _, r => by rw [show _ = _ from r]; exact .inl ⟨rfl, rfl⟩
  | p :: ps, _, ⟨x, q, e, r1, r2⟩ => by
    subst e
    by_cases z : p.1 = k
    · exact .inr ⟨p.2, x, by simp [valC, List.find?_cons, z], by rw [valV_pos (by rw [z])], r1⟩
    · have zk : ¬ ky p.1 = ky k := fun h => z (ky_inj h)
      have e1 : valC (p :: ps) k = valC ps k := by simp [valC, List.find?_cons, z]
      rw [e1, valV_neg (p := (ky p.1, x)) zk]
      exact KReps.val k r2
theorem KReps.any (k : KeyD) : ∀ {ds : List (KeyD × D)} {xs : List (Key × V)}, KReps c H ds xs → (xs.any fun p => decide (p.1 = ky k)) = ds.any fun p => decide (p.1 = k)
  | [], _, r => by rw [show _ = _ from r]; rfl
  | p :: ps, _, ⟨x, q, e, r1, r2⟩ => by
    subst e
    rw [List.any_cons, List.any_cons, KReps.any k r2]
    congr 1
    rw [Bool.eq_iff_iff, decide_eq_true_eq, decide_eq_true_eq]
    exact ⟨ky_inj, fun h => by rw [h]⟩
theorem KReps.repl {k : KeyD} {d : D} {v : V} (rd : Rep c.K H d v) : ∀ {ds : List (KeyD × D)} {xs : List (Key × V)}, KReps c H ds xs → KReps c H (ds.map fun p => if p.1 = k then (p.1, d) else p) (xs.map fun p => if p.1 = ky k then (p.1, v) else p)
  | [], _, r => by rw [show _ = _ from r]; rfl
  | p :: ps, _, ⟨x, q, e, r1, r2⟩ => by
    subst e
    rw [List.map_cons, List.map_cons]
    by_cases z : p.1 = k
    · rw [if_pos z, if_pos (by rw [z])]
      exact ⟨v, _, rfl, rd, KReps.repl rd r2⟩
    · rw [if_neg z, if_neg (fun h => z (ky_inj h))]
      exact ⟨x, _, rfl, r1, KReps.repl rd r2⟩
theorem KReps.snoc {k : KeyD} {d : D} {v : V} (rd : Rep c.K H d v) : ∀ {ds : List (KeyD × D)} {xs : List (Key × V)}, KReps c H ds xs → KReps c H (ds ++ [(k, d)]) (xs ++ [(ky k, v)])
  | [], _, r => by rw [show _ = _ from r]; exact ⟨v, [], rfl, rd, rfl⟩
  | p :: ps, _, ⟨x, q, e, r1, r2⟩ => by
    subst e
    exact ⟨x, _, rfl, r1, KReps.snoc rd r2⟩
theorem KReps.put {k : KeyD} {d : D} {v : V} {ds : List (KeyD × D)} {xs : List (Key × V)} (r : KReps c H ds xs) (rd : Rep c.K H d v) : KReps c H (putC ds k d) (putK xs (ky k) v) := by
  unfold putC putK
  rw [r.any k]
  split
  · exact KReps.repl rd r
  · exact KReps.snoc rd r
end
theorem putC_len (acc : List (KeyD × D)) (k : KeyD) (v : D) : (putC acc k v).length ≤ acc.length + 1 := by
  unfold putC
  split
  · rw [List.length_map]; omega
  · rw [List.length_append]; simp
theorem valC_snoc (k j : KeyD) (v : D) : ∀ kvs : List (KeyD × D), valC kvs k = none → valC (kvs ++ [(k, v)]) j = if k = j then some v else valC kvs j
  | [], _ => by simp only [valC, List.nil_append, List.find?_cons, List.find?_nil]; split <;> simp_all
  | p :: ps, h => by
    have h1 : ¬ p.1 = k := fun z => by simp [valC, List.find?_cons, z] at h
    have h2 : valC ps k = none := by simpa [valC, List.find?_cons, h1] using h
    have ih := valC_snoc k j v ps h2
    by_cases z : p.1 = j
    · have : ¬ k = j := fun y => h1 (z.trans y.symm)
      simp [valC, List.find?_cons, z, this]
    · have e1 : valC (p :: ps ++ [(k, v)]) j = valC (ps ++ [(k, v)]) j := by simp [valC, List.find?_cons, z]
      have e2 : valC (p :: ps) j = valC ps j := by simp [valC, List.find?_cons, z]
      rw [e1, e2, ih]
theorem valC_any (k : KeyD) : ∀ kvs : List (KeyD × D), kvs.any (fun p => decide (p.1 = k)) = (valC kvs k).isSome
  | [] => rfl
  | p :: ps => by
    rw [List.any_cons, valC_any k ps]
    by_cases z : p.1 = k <;> simp [valC, List.find?_cons, z]
theorem valC_put (k j : KeyD) (v : D) (kvs : List (KeyD × D)) : valC (putC kvs k v) j = if k = j then some v else valC kvs j := by
  unfold putC
  split
  · rename_i h
    rw [valC_any] at h
    have gen : ∀ kvs : List (KeyD × D), valC (kvs.map fun p => if p.1 = k then (p.1, v) else p) j = if k = j then (valC kvs j).map fun _ => v else valC kvs j := by
      intro kvs
      induction kvs with
      | nil => simp [valC]
      | cons p ps ih =>
        rw [List.map_cons]
        by_cases z : p.1 = k
        · rw [if_pos z]
          by_cases y : p.1 = j
          · simp [valC, List.find?_cons, y, show k = j from z.symm.trans y]
          · have e1 : valC ((p.1, v) :: ps.map fun p => if p.1 = k then (p.1, v) else p) j = valC (ps.map fun p => if p.1 = k then (p.1, v) else p) j := by simp [valC, List.find?_cons, y]
            have e2 : valC (p :: ps) j = valC ps j := by simp [valC, List.find?_cons, y]
            rw [e1, e2, ih]
        · rw [if_neg z]
          by_cases y : p.1 = j
          · have : ¬ k = j := fun w => z (y.trans w.symm)
            simp [valC, List.find?_cons, y, this]
          · have e1 : valC (p :: ps.map fun p => if p.1 = k then (p.1, v) else p) j = valC (ps.map fun p => if p.1 = k then (p.1, v) else p) j := by simp [valC, List.find?_cons, y]
            have e2 : valC (p :: ps) j = valC ps j := by simp [valC, List.find?_cons, y]
            rw [e1, e2, ih]
    rw [gen]
    split
    · rename_i z
      subst z
      cases q : valC kvs k with
      | none => rw [q] at h; cases h
      | some _ => rfl
    · rfl
  · rename_i h
    rw [valC_any] at h
    exact valC_snoc k j v kvs (by simpa using h)
/-- the store -/
def stK (c : Cn) : TSt := fun p y z H N => ∃ (xs : List (Key × V)) (kvs : List (KeyD × D)) (k : KeyD) (v : D), H p = some (.dK xs) ∧ KReps c H kvs xs ∧ y = kV (ky k) ∧ Rep c.K H v z ∧ kvs.length < sizeLine ∧ N (upd H p (.dK (putK xs (ky k) z)))
section
variable {X : Cx}
theorem store_k (T : Tb) : StoreOk X (fun _ => .dK []) (stK (cn X T)) := by
  refine ⟨fun H h hb => ?_, ?_⟩
  · exact dk_new (by simp) (beq_eq_false_iff_ne.mpr (Ne.symm (Nat.ne_of_lt hb))) .nil (Heap.DictOf.new h)
  · intro Y e1 e2 e3 e4 pins s σ H p y z u r N E I ry rz h
    obtain ⟨xs, kvs, k, v, e, kr, ey, rv, hz, n⟩ := h
    subst ey
    rw [← e1, ← e2, ← e4]
    exact d_dictSet I e (by rw [kr.length]; exact hz) ry rz fun s' I' => ⟨_, I', n⟩
end
def DkB (p : Pat) (tt : MT) (mk mv : ME) (vs : List Nat) (δ : DSt) (Q : DK) (ds : List D) (ok : DHp → Prop) (h1 : DHp) : Prop := ∃ V : Nat → List (KeyD × D) → DHp → Prop, V 0 [] h1 ∧ ∀ i acc h, V i acc h → ok h ∧
  (i = ds.length → ∀ q, h q = none → Q (.ref q) (put h q (.dct acc))) ∧
  ∀ d, ds[i]? = some d → ∃ δ2, patB p d (dwipe δ vs) = some δ2 ∧ tt δ2 h (fun b h3 => (b = true → mk δ2 h3 (fun y h4 => mv δ2 h4 (fun z h5 => ∃ k, kyD y = some k ∧ acc.length < sizeLine ∧ V (i + 1) (putC acc k z) h5) nox) nox) ∧
    (b = false → V (i + 1) acc h3)) nox
def dDcK (mi : MI) (p : Pat) (tt : MT) (mk mv : ME) (vs : List Nat) : ME := fun δ h Q E => mi δ h (fun ds ok h1 => DkB p tt mk mv vs δ Q ds ok h1) E
def putCs (acc : List (KeyD × D)) (kvs : List (KeyD × D)) : List (KeyD × D) := kvs.foldl (fun a p => putC a p.1 p.2) acc
theorem putCs_len : ∀ (kvs acc : List (KeyD × D)), (putCs acc kvs).length ≤ acc.length + kvs.length
  | [], acc => by simp [putCs]
  | p :: kvs, acc => by
    have h1 := putC_len acc p.1 p.2
    have h2 := putCs_len kvs (putC acc p.1 p.2)
    show (putCs (putC acc p.1 p.2) kvs).length ≤ _
    rw [List.length_cons]
    omega
/-- all values alike: what is in the dict is what was put there -/
theorem valCs (v : D) (j : KeyD) : ∀ (ks : List KeyD) (acc : List (KeyD × D)), (j ∈ ks → valC (putCs acc (ks.map fun k => (k, v))) j = some v) ∧ (j ∉ ks → valC (putCs acc (ks.map fun k => (k, v))) j = valC acc j)
  | [], acc => ⟨fun h => (by cases h), fun _ => rfl⟩
  | k :: ks, acc => by
    have ih := valCs v j ks (putC acc k v)
    have e : valC (putCs acc ((k :: ks).map fun k => (k, v))) j = valC (putCs (putC acc k v) (ks.map fun k => (k, v))) j := rfl
    rw [e]
    refine ⟨fun h => ?_, fun h => ?_⟩
    · by_cases hk : j ∈ ks
      · exact ih.1 hk
      · rw [ih.2 hk, valC_put]
        rcases List.mem_cons.mp h with h | h
        · rw [if_pos h.symm]
        · exact absurd h hk
    · rw [List.mem_cons, not_or] at h
      rw [ih.2 h.2, valC_put, if_neg fun z => h.1 z.symm]
theorem dkB_map {p : Pat} {mk mv : ME} {vs : List Nat} {δ : DSt} {Q : DK} {ds : List D} {ok : DHp → Prop} {h : DHp} (f : D → KeyD) (g : D → D) (hok : ok h) (hz : ds.length ≤ sizeLine)
    (he : ∀ d ∈ ds, ∃ δ2, patB p d (dwipe δ vs) = some δ2 ∧ ∃ y, kyD y = some (f d) ∧ (∀ K : DK, K y h → mk δ2 h K nox) ∧ ∀ K : DK, K (g d) h → mv δ2 h K nox)
    (q : ∀ r, h r = none → Q (.ref r) (put h r (.dct (putCs [] (ds.map fun d => (f d, g d)))))) : DkB p dYes mk mv vs δ Q ds ok h := by
  refine ⟨fun i acc h' => h' = h ∧ i ≤ ds.length ∧ acc = putCs [] ((ds.take i).map fun d => (f d, g d)), ⟨rfl, Nat.zero_le _, rfl⟩, ?_⟩
  rintro i acc h' ⟨rfl, hi, rfl⟩
  refine ⟨hok, fun e r n => ?_, fun d hd => ?_⟩
  · subst e
    rw [List.take_length]
    exact q r n
  · obtain ⟨hlt, hd'⟩ := List.getElem?_eq_some_iff.mp hd
    obtain ⟨δ2, e1, y, ey, e2, e3⟩ := he d (List.mem_of_getElem? hd)
    refine ⟨δ2, e1, fun _ => e2 _ (e3 _ ⟨_, ey, ?_, rfl, hlt, ?_⟩), fun z => by cases z⟩
    · have := putCs_len ((ds.take i).map fun d => (f d, g d)) []
      rw [List.length_map, List.length_take, List.length_nil, Nat.zero_add] at this
      omega
    · rw [← hd', List.take_succ_eq_append_getElem hlt, List.map_append]
      unfold putCs
      rw [List.foldl_append]
      rfl
theorem keeps_dK {H : Hp} {a : Addr} {xs ys : List (Key × V)} (e : H a = some (.dK xs)) : Keeps H (upd H a (.dK ys)) :=
  ⟨fun b zs q => by rw [upd_ne (fun z => by subst z; rw [e] at q; cases q)]; exact q, fun b ob z q => by rw [upd_ne (fun y => by subst y; rw [e] at q; cases q)]; exact q⟩
theorem RelH.hidDK {c : Cn} {h : DHp} {H : Hp} {p : Addr} {xs ys : List (Key × V)} (rh : RelH c H h) (e : H p = some (.dK xs)) (n : h p = none) : RelH c (upd H p (.dK ys)) h := by
  have k : Keeps H (upd H p (.dK ys)) := keeps_dK e
  refine ⟨fun a o ea => ?_, fun q hq => ?_⟩
  · have na : a ≠ p := fun z => by subst z; rw [n] at ea; cases ea
    exact (rh.at_ a o ea).keep k (upd_ne na)
  · obtain ⟨ps, t1, t2, t3⟩ := rh.tabs q hq
    refine ⟨ps, by rw [upd_ne (fun z => by subst z; rw [e] at t1; cases t1)]; exact t1, t2, fun pos cv hc => ?_⟩
    obtain ⟨b, e1, e2⟩ := t3 pos cv hc
    exact ⟨b, e1, by rw [upd_ne fun y => by subst y; rw [e] at e2; exact noCode_dK _ _ (Option.some.inj e2)]; exact e2⟩
section
variable {X : Cx} {T : Tb} {W : WX} {kx vx tg iter : Expr} {ifs : List Expr} {scope : Scope} {own : List (Str × Nat)} {pos : Pos} {mi : MI} {p : Pat} {tt : MT} {mk mv : ME}
theorem up_dcK (hv : ∀ i ∈ patV p, i ∈ own.map (·.2)) : ∀ σ H Q, up (cn X T) W (dDcK mi p tt mk mv (own.map (·.2))) σ H Q →
    tDcG (fun _ => .dK []) (stK (cn X T)) (upI (cn X T) W mi) (patG X.K p) (upT (cn X T) WF tt) (up (cn X T) WF mk) (up (cn X T) WF mv) (own.map (·.2)) σ H Q := by
  rintro σ H Q ⟨δ, h, Q', E', rs, rh, q, k, kx⟩
  refine ⟨δ, h, _, _, rs, rh, q, fun J ds ok H1 h1 x1 rh1 io q1 L nL sL => ?_, kx⟩
  obtain ⟨V, v0, turn⟩ := q1
  obtain ⟨rh1', x1'⟩ := rh1.hid (u := .dK []) nL
  have nL1 : h1 L = none := rh1.fresh nL
  -- what holds at each turn
  let S : Nat → Hp → Prop := fun i H' => ∃ acc xs h', (∀ a o, a ≠ L → h1 a = none → H1 a = some o → (∀ ps, o ≠ .tbl ps) → H' a = some o ∧ h' a = none) ∧ Keeps H1 H' ∧ RelH (cn X T) H' h' ∧ h' L = none ∧ (H' L = some (.dK xs) ∧ KReps (cn X T) H' acc xs) ∧ V i acc h'
  refine ⟨fun i mm H' => mm = ds.length - i ∧ i ≤ ds.length ∧ S i H', ⟨ds.length, rfl, Nat.zero_le _, [], [], h1, fun a o na n e nt => ⟨by rw [upd_ne na]; exact e, n⟩, keeps_new nL, rh1', nL1, ⟨upd_same, rfl⟩, v0⟩, ?_⟩
  rintro i mm H2 ⟨em, hi, acc, es, h2, x2, k2, rh2, n2, ⟨d2, b2⟩, v2⟩
  obtain ⟨ok2, fin, step⟩ := turn i acc h2 v2
  by_cases hlt : i < ds.length
  · refine .inr ⟨io.go i H2 h2 k2 rh2 ok2 hlt, S (i + 1), fun H' z => ⟨ds.length - (i + 1), by omega, rfl, hlt, z⟩, fun x H3 y => ?_⟩
    have hd : ds[i]? = some ds[i] := List.getElem?_eq_getElem hlt
    obtain ⟨r3, rh3, x3⟩ := io.yld i H2 x H3 h2 _ k2 rh2 ok2 hd y
    obtain ⟨δ2, hp, q3⟩ := step _ hd
    have kH : Keeps H H3 := by
      have a := x1.keeps rh
      have b := x3.keeps rh2
      exact ⟨fun c xs e => b.1 _ _ (k2.1 _ _ (a.1 _ _ e)), fun c o z e => b.2 _ _ _ (k2.2 _ _ _ (a.2 _ _ _ e))⟩
    refine pat_ok (c := cn X T) p _ x _ δ2 _ _ hp r3 ((rs.keep kH).wipe _) fun σ2 rs2 w2 => ⟨?_, ?_⟩
    · rw [w2 _ hv]
      have ww : ∀ (l vs : List Nat), (∀ i ∈ l, i ∈ vs) → L2.wipe (L2.wipe σ l) vs = L2.wipe σ vs := by
        intro l
        induction l with
        | nil => intro vs _; rfl
        | cons a l ih =>
          intro vs hl
          show L2.wipe ((L2.wipe σ l).set a none) vs = _
          rw [wipe_set _ _ vs (hl a (by simp)), ih vs fun i hi => hl i (by simp [hi])]
      exact ww _ _ fun i hi => hi
    · have nt : ∀ ps, HO.dK es ≠ .tbl ps := fun ps z => by cases z
      have e3 : H3 L = some (.dK es) := x3.same n2 d2 nt
      have d3 := KReps.keep (x3.keeps rh2) _ _ b2
      refine ⟨δ2, h2, _, nox, rs2, rh3, q3, fun b H4 h4 x4 rh4 q4 => ?_, fun _ _ _ _ _ z => z⟩
      have e4 : H4 L = some (.dK es) := x4.same n2 e3 nt
      have d4 := KReps.keep (x4.keeps rh3) _ _ d3
      have n4 : h4 L = none := (x4 L _ n2 e3 (fun _ z => by cases z)).2
      have x24 := x3.trans x4
      have thr : ∀ {H' : Hp} {h' : DHp}, Ext h2 h' H2 H' → ∀ a o, a ≠ L → h1 a = none → H1 a = some o → (∀ ps, o ≠ .tbl ps) → H' a = some o ∧ h' a = none := fun {H' h'} xx a o na n e nt => by
        obtain ⟨e1, m1⟩ := x2 a o na n e nt
        exact xx a o m1 e1 nt
      have kpt : ∀ {H' : Hp} {h' : DHp}, Ext h2 h' H2 H' → Keeps H1 H' := fun {H' h'} xx => by
        have b := xx.keeps rh2
        exact ⟨fun c xs e => b.1 _ _ (k2.1 _ _ e), fun c o z e => b.2 _ _ _ (k2.2 _ _ _ e)⟩
      cases b with
      | false => exact ⟨acc, es, h4, thr x24, kpt x24, rh4, n4, ⟨e4, d4⟩, q4.2 rfl⟩
      | true =>
        refine ⟨δ2, h4, _, nox, rs2.keep (x4.keeps rh3), rh4, q4.1 rfl, fun y dy H5 h5 x5 r5 rh5 q5 => ?_, fun _ _ _ _ _ z => z⟩
        have e5 : H5 L = some (.dK es) := x5.same n4 e4 nt
        have d5 := KReps.keep (x5.keeps rh4) _ _ d4
        have n5 : h5 L = none := (x5 L _ n4 e4 (fun _ z => by cases z)).2
        have x25 := x24.trans x5
        refine ⟨δ2, h5, _, nox, (rs2.keep (x4.keeps rh3)).keep (x5.keeps rh4), rh5, q5, fun z dz H6 h6 x6 r6 rh6 q6 => ?_, fun _ _ _ _ _ z => z⟩
        have e6 : H6 L = some (.dK es) := x6.same n5 e5 nt
        have d6 := KReps.keep (x6.keeps rh5) _ _ d5
        have n6 : h6 L = none := (x6 L _ n5 e5 (fun _ z => by cases z)).2
        have x26 := x25.trans x6
        obtain ⟨key, ek, hz, q6⟩ := q6
        have k6 : Keeps H6 (upd H6 L (.dK (putK es (ky key) z))) := keeps_dK e6
        refine ⟨es, acc, key, dz, e6, d6, kyD_V ek r5, r6, hz, putC acc key dz, _, h6, fun a o na n e nt => ?_, ?_, rh6.hidDK e6 n6, n6, ⟨upd_same, KReps.keep k6 _ _ (d6.put r6)⟩, q6⟩
        · obtain ⟨e1, m1⟩ := thr x26 a o na n e nt
          exact ⟨by rw [upd_ne na]; exact e1, m1⟩
        · have b := kpt x26
          exact ⟨fun c xs e => k6.1 _ _ (b.1 _ _ e), fun c o z e => k6.2 _ _ _ (b.2 _ _ _ e)⟩
  · have hi3 : i = ds.length := by omega
    subst hi3
    refine .inl ⟨io.stop H2 h2 k2 rh2 ok2, ?_⟩
    have rh3 := rh2.show_ (p := L) (o := .dct acc) ⟨es, d2, b2⟩
    refine k _ _ H2 (put h2 L (.dct acc)) (fun a o n e nt => ?_) mk_ref rh3 (fin rfl L n2)
    obtain ⟨e1, m1⟩ := x1 a o n e nt
    have na : a ≠ L := fun z => by subst z; rw [nL] at e1; cases e1
    obtain ⟨e2', m2⟩ := x2 a o na m1 e1 nt
    exact ⟨e2', by rw [put_ne na]; exact m2⟩
theorem de_dcK (hc : X.calm = true) (hN : X.N.Nodup) (hi : DI X T W tg iter mi) (ok : BlkOk X.N X.env.scope scope own) (hv : ∀ i ∈ patV p, i ∈ own.map (·.2))
    (hg : BlkP X scope fun Y => PG Y tg (patG X.K p)) (ht : BlkP X scope fun Y => DTs Y T ifs tt) (hk : BlkP X scope fun Y => DE Y T WF kx mk) (he : BlkP X scope fun Y => DE Y T WF vx mv) (hs : ∀ x, foldedSetIterable iter X.env x = pure x := by intro _; rfl) :
    DE X T W (.DictComp kx vx [⟨tg, iter, ifs, 0⟩] scope pos) (dDcK mi p tt mk mv (own.map (·.2))) :=
  pe_imp (pe_dcG (X := X) (tk := up (cn X T) WF mk) (tv := up (cn X T) WF mv) (tt := upT (cn X T) WF tt) (store_k T) hc hN hi ok hg (fun s H C cl fp => (ht s H C cl fp).t) hk he hs) (up_dcK hv)
end
end Tw
/-! in, not in; the module's dicts; texts walked. -/
namespace Tw
open PySem PySem.Spec PyProof.Rows L2
/-- values without parts -/
def flatD : D → Bool
  | .non => true
  | .bl _ => true
  | .int _ => true
  | .str _ => true
  | _ => false
def eqFD : D → D → Bool
  | .non, .non => true
  | .bl a, .bl b => a == b
  | .bl a, .int b => (if a then 1 else 0) == b
  | .int a, .bl b => a == (if b then 1 else 0)
  | .int a, .int b => a == b
  | .str a, .str b => a == b
  | _, _ => false
theorem flat_V {K : PySem.W.Frag} {H : Hp} {d : D} {v : V} (r : Rep K H d v) (f : flatD d = true) : flatV v = true := by
  cases d <;> first
    | exact absurd f Bool.false_ne_true
    | (simp only [Rep] at r; subst r; rfl)
theorem eqF_V {K : PySem.W.Frag} {H : Hp} {d e : D} {v u : V} (r : Rep K H d v) (q : Rep K H e u) (f : flatD d = true) (g : flatD e = true) : eqV v u = eqFD d e := by
  cases d <;> cases e <;> first
    | exact absurd f Bool.false_ne_true
    | exact absurd g Bool.false_ne_true
    | (simp only [Rep] at r q; subst r q; first | rfl | (unfold eqV eqFD; rw [Bool.eq_iff_iff]; simp [-Str.mk.injEq]; try exact tx_inj))
theorem flats_V {K : PySem.W.Frag} {H : Hp} {x : D} {v : V} (r : Rep K H x v) (f : flatD x = true) : ∀ {ys : List D} {vs : List V}, Reps K H ys vs → ys.all flatD = true → vs.all flatV = true ∧ (vs.any fun y => eqV y v) = ys.any fun y => eqFD y x
  | [], _, q, _ => by simp only [Reps] at q; subst q; exact ⟨rfl, rfl⟩
  | y :: ys, _, q, g => by
    simp only [Reps] at q
    obtain ⟨w, z, e, q1, q2⟩ := q
    subst e
    rw [List.all_cons, Bool.and_eq_true] at g
    obtain ⟨h1, h2⟩ := flats_V r f q2 g.2
    rw [List.all_cons, List.any_cons, List.any_cons, h1, h2, flat_V q1 g.1, eqF_V q1 r g.1 f]
    exact ⟨rfl, rfl⟩
/-- x among ys -/
def memD (x : D) (ys : List D) (h : DHp) (R : Bool → Prop) : Prop := (flatD x = true ∧ ys.all flatD = true ∧ R (ys.any fun y => eqFD y x)) ∨
  ∃ p ps, Py h x p ∧ PyA h ys ps ∧ SeqAt.shaped p = true ∧ SeqAt.shaped (.list ps) = true ∧ SeqAt.shaped (.tuple ps) = true ∧ R (ps.any fun z => PyData.eqv z p)
/-- x in a dict, None perhaps -/
def inC (neg : Bool) (x : D) (kvs : List (KeyD × D)) (h : DHp) (Q : DK) : Prop := match x with
  | .int i => Q (.bl (xor neg (valC kvs (.inl i)).isSome)) h
  | .str z => Q (.bl (xor neg (valC kvs (.inr z)).isSome)) h
  | .non => Q (.bl (xor neg false)) h
  | _ => False
def dIn (neg : Bool) (x y : D) (h : DHp) (Q : DK) : Prop := match y with
  | .str b => (match x with
    | .str [c] => Q (.bl (xor neg (decide (c ∈ b)))) h
    | .str a => Q (.bl (xor neg (subT a b))) h
    | _ => False)
  | .tup ys => memD x ys h fun b => Q (.bl (xor neg b)) h
  | .ref a => (match h a with
    | some (.lst ys) => memD x ys h fun b => Q (.bl (xor neg b)) h
    | some (.dct kvs) => inC neg x kvs h Q
    | _ => False)
  | _ => False
section
variable {X : Cx} {T : Tb}
theorem in_tupD (hu : X.A.units + 65 < cLine) (neg : Bool) : OpR X (compareOp (if neg then .NotIn else .In)) (fun x y H Q => ∃ d ds, Dp X.K H x d ∧ Dp X.K H y (.tuple ds) ∧ SeqAt.shaped d = true ∧ SeqAt.shaped (.tuple ds) = true ∧ Q (.bl (xor neg (ds.any fun z => PyData.eqv z d))) H) := by
  intro pins s σ H x y v u Q I rx ry h
  obtain ⟨d, ds, hd, he, sd, se, q⟩ := h
  obtain ⟨as, r1⟩ := Dp.reads I d x v hd rx
  obtain ⟨bs, r2⟩ := Dp.reads I (.tuple ds) y u he ry
  cases neg with
  | false => exact SeqAt.in_tuple_reads r2 r1 (SeqAt.canLay_of_shaped se) (SeqAt.canLay_of_shaped sd) (room_in_shaped sd hu) ⟨.bl _, H, I, rfl, by simpa using q⟩
  | true => exact SeqAt.notIn_tuple_reads r2 r1 (SeqAt.canLay_of_shaped se) (SeqAt.canLay_of_shaped sd) (room_in_shaped sd hu) ⟨.bl _, H, I, rfl, by simpa using q⟩
theorem in_gen (hu : X.A.units + 65 < cLine) (neg : Bool) : OpD X T (compareOp (if neg then .NotIn else .In)) (dIn neg) := by
  intro pins s σ H x y v u Q I rx ry hh
  obtain ⟨dx, dy, h, Q', r1, r2, rh, q, k⟩ := hh
  have flat : ∀ {p : Addr} {ys : List D} {vs : List V} {b : Bool}, y = .ref p → (SqL X.K H p vs ∨ SqT X.K H p vs) → Reps X.K H ys vs → flatD dx = true → ys.all flatD = true → Q' (.bl (xor neg (ys.any fun y => eqFD y dx))) h → wpAny (model X.prog X.w) X.A (compareOp (if neg then .NotIn else .In) v u) (EP X pins σ Q) X.xe s := by
    intro p ys vs b ey sq rr f g q
    obtain ⟨h1, h2⟩ := flats_V r1 f rr g
    cases neg with
    | false => exact op_in_seq pins s σ H x y v u Q I rx ry ⟨p, vs, ey, sq, flat_V r1 f, h1, by unfold inV; rw [h2]; exact k.here mk_bl rh (by simpa using q)⟩
    | true => exact op_notIn_seq pins s σ H x y v u Q I rx ry ⟨p, vs, ey, sq, flat_V r1 f, h1, by unfold inV; rw [h2]; exact k.here mk_bl rh (by simpa using q)⟩
  cases dy with
  | str b =>
    have sub : ∀ a, dx = .str a → Q' (.bl (xor neg (subT a b))) h → wpAny (model X.prog X.w) X.A (compareOp (if neg then .NotIn else .In) v u) (EP X pins σ Q) X.xe s := by
      rintro a rfl q
      cases neg with
      | false => exact op_in_str pins s σ H x y v u Q I rx ry ⟨_, _, rel_str r1, rel_str r2, k.here mk_bl rh (by simpa [subT] using q)⟩
      | true => exact op_notin_str pins s σ H x y v u Q I rx ry ⟨_, _, rel_str r1, rel_str r2, k.here mk_bl rh (by simpa [subT] using q)⟩
    cases dx with
    | str a =>
      match a, r1, q, sub with
      | [c], r1, q, _ =>
        have q : Q' (.bl (xor neg (decide (c ∈ b)))) h := q
        cases neg with
        | false => exact op_in_sign pins s σ H x y v u Q I rx ry ⟨c, _, rel_str r1, rel_str r2, k.here mk_bl rh (by simpa using q)⟩
        | true => exact op_notIn_sign pins s σ H x y v u Q I rx ry ⟨c, _, rel_str r1, rel_str r2, k.here mk_bl rh (by simpa using q)⟩
      | [], r1, q, sub => exact sub _ rfl q
      | _ :: _ :: _, r1, q, sub => exact sub _ rfl q
    | _ => exact False.elim q
  | tup ys =>
    obtain ⟨p, vs, ey, t, rr⟩ := rel_tup r2
    rcases (show memD dx ys h fun b => Q' (.bl (xor neg b)) h from q) with ⟨f, g, q⟩ | ⟨pp, ps, y1, y2, s1, s2, s3, q⟩
    · exact flat (b := true) ey (.inr t.sqt) rr f g q
    · exact in_tupD hu neg pins s σ H x y v u Q I rx ry ⟨pp, ps, y1.dp rh _ _ _ r1, (Py.tup y2).dp rh _ _ _ r2, s1, s3, k.here mk_bl rh q⟩
  | ref a =>
    cases e : h a with
    | none => simp [dIn, e] at q
    | some o =>
      cases o with
      | lst ys =>
        simp only [dIn, e] at q
        obtain ⟨vs, sq, rr, _⟩ := sql_lst rh e
        rcases q with ⟨f, g, q⟩ | ⟨pp, ps, y1, y2, s1, s2, s3, q⟩
        · exact flat (b := true) (rel_ref r2) (.inl sq) rr f g q
        · cases neg with
          | false => exact op_inD hu pins s σ H x y v u Q I rx ry ⟨pp, ps, y1.dp rh _ _ _ r1, (Py.lst e y2).dp rh _ _ _ r2, s1, s2, k.here mk_bl rh (by simpa using q)⟩
          | true => exact op_notInD hu pins s σ H x y v u Q I rx ry ⟨pp, ps, y1.dp rh _ _ _ r1, (Py.lst e y2).dp rh _ _ _ r2, s1, s2, k.here mk_bl rh (by simpa using q)⟩
      | dct kvs =>
        simp only [dIn, e] at q
        obtain ⟨vs, e1, kr⟩ := rh.at_ _ _ e
        have ey := rel_ref r2
        subst ey
        cases (show u = Value.ref a from ry)
        have at_ : ∀ key : KeyD, kyD dx = some key → Q' (.bl (xor neg (valC kvs key).isSome)) h → wpAny (model X.prog X.w) X.A (compareOp (if neg then .NotIn else .In) v (.ref a)) (EP X pins σ Q) X.xe s := by
          intro key ek q
          have ex := kyD_V ek r1
          subst ex
          have g : DGet H a (kV (ky key)) (valV vs (ky key)) := .inl ⟨vs, ky key, .inl e1, rfl, rfl⟩
          have eb : (valV vs (ky key)).isSome = (valC kvs key).isSome := by
            rcases kr.val key with ⟨z1, z2⟩ | ⟨d, w, z1, z2, _⟩
            · rw [z1, z2]; rfl
            · rw [z1, z2]; rfl
          cases neg with
          | false => exact d_in (by omega) I g rx fun s' I' => ⟨.bl _, H, I', rfl, by rw [eb]; exact k.here mk_bl rh (by simpa using q)⟩
          | true => exact d_notIn (by omega) I g rx fun s' I' => ⟨.bl _, H, I', rfl, by rw [eb]; exact k.here mk_bl rh (by simpa using q)⟩
        cases dx with
        | int i => exact at_ _ rfl q
        | str z => exact at_ _ rfl q
        | non =>
          have ex := rel_non r1
          subst ex
          cases (show v = Value.none from rx)
          cases neg with
          | false => exact d_inNone I (.inl e1) fun s' I' => ⟨.bl false, H, I', rfl, k.here mk_bl rh (by simpa [inC] using q)⟩
          | true => exact d_notInNone I (.inl e1) fun s' I' => ⟨.bl true, H, I', rfl, k.here mk_bl rh (by simpa [inC] using q)⟩
        | _ => exact False.elim q
      | _ => simp [dIn, e] at q
  | _ => exact False.elim q
theorem or_in (hu : X.A.units + 65 < cLine) : OpD X T (compareOp .In) (dIn false) := in_gen hu false
theorem or_notIn (hu : X.A.units + 65 < cLine) : OpD X T (compareOp .NotIn) (dIn true) := in_gen hu true
/-! a dict of the module with texts for keys -/
/-- what it holds -/
structure KD (X : Cx) (a : Addr) (f : List Nat → Option D) : Prop where
  dct : ∃ es n, KDict X.K X.w a es n
  at_ : ∀ x, (f x = none ∧ PySem.W.nsIn X.K a (tx x) = some none) ∨ ∃ d v u, f x = some d ∧ PySem.W.nsIn X.K a (tx x) = some (some u) ∧ RelV v u ∧ ∀ H, Rep X.K H d v
def dInK (a : Addr) (f : List Nat → Option D) (neg : Bool) (x y : D) (h : DHp) (Q : DK) : Prop := match x with
  | .str z => y = .ref a ∧ Q (.bl (xor neg (f z).isSome)) h
  | _ => False
theorem or_inK {a : Addr} {f : List Nat → Option D} (c : KD X a f) : OpD X T (compareOp .In) (dInK a f false) := by
  intro pins s σ H x y v u Q I rx ry hh
  obtain ⟨dx, dy, h, Q', r1, r2, rh, q, k⟩ := hh
  obtain ⟨es, n, kd⟩ := c.dct
  cases dx with
  | str z =>
    obtain ⟨rfl, q⟩ := q
    have e : ∃ r, PySem.W.nsIn X.K a (tx z) = some r ∧ r.isSome = (f z).isSome := by
      rcases c.at_ z with ⟨h1, h2⟩ | ⟨d, _, _, h1, h2, _⟩
      · exact ⟨_, h2, by rw [h1]; rfl⟩
      · exact ⟨_, h2, by rw [h1]; rfl⟩
    obtain ⟨r, e1, e2⟩ := e
    exact op_in_kd kd pins s σ H x y v u Q I rx ry ⟨tx z, r, rel_str r1, rel_ref r2, e1, by rw [e2]; exact k.here mk_bl rh (by simpa using q)⟩
  | _ => exact False.elim q
theorem or_notInK {a : Addr} {f : List Nat → Option D} (c : KD X a f) : OpD X T (compareOp .NotIn) (dInK a f true) := by
  intro pins s σ H x y v u Q I rx ry hh
  obtain ⟨dx, dy, h, Q', r1, r2, rh, q, k⟩ := hh
  obtain ⟨es, n, kd⟩ := c.dct
  cases dx with
  | str z =>
    obtain ⟨rfl, q⟩ := q
    have e : ∃ r, PySem.W.nsIn X.K a (tx z) = some r ∧ r.isSome = (f z).isSome := by
      rcases c.at_ z with ⟨h1, h2⟩ | ⟨d, _, _, h1, h2, _⟩
      · exact ⟨_, h2, by rw [h1]; rfl⟩
      · exact ⟨_, h2, by rw [h1]; rfl⟩
    obtain ⟨r, e1, e2⟩ := e
    exact op_notIn_kd kd pins s σ H x y v u Q I rx ry ⟨tx z, r, rel_str r1, rel_ref r2, e1, by rw [e2]; exact k.here mk_bl rh (by simpa using q)⟩
  | _ => exact False.elim q
def dIxK (a : Addr) (f : List Nat → Option D) (x y : D) (h : DHp) (Q : DK) : Prop := match y with
  | .str z => x = .ref a ∧ ∃ d, f z = some d ∧ Q d h
  | _ => False
theorem ix_K {a : Addr} {f : List Nat → Option D} (c : KD X a f) : IxD X T (dIxK a f) := by
  intro value slice pins s σ H x y v u Q I rx ry hh hs
  obtain ⟨dx, dy, h, Q', r1, r2, rh, q, k⟩ := hh
  obtain ⟨es, n, kd⟩ := c.dct
  cases dy with
  | str z =>
    obtain ⟨rfl, d, ed, q⟩ := q
    rcases c.at_ z with ⟨h1, _⟩ | ⟨d', w, u0, h1, h2, h3, h4⟩
    · rw [h1] at ed; cases ed
    · rw [h1] at ed
      cases ed
      have ty : s.TypeIs v "dict" := by
        have ex := rel_ref r1
        subst ex
        obtain rfl : v = Value.ref a := rx
        exact kd_type kd I
      exact tail_any ty slot_dict_getitem.lookup (op_item_kd kd pins s σ H x y v u Q I rx ry ⟨tx z, u0, w, rel_ref r1, rel_str r2, h2, h3, k.here (h4 H) rh q⟩) hs
  | _ => exact False.elim q
/-! a text walked -/
def dIStr (m : ME) : MI := fun δ h R E => m δ h (fun d h1 => match d with | .str x => R (x.map fun c => .str [c]) (fun _ => True) h1 | _ => False) E
theorem di_str {W : WX} {tg e : Expr} {m : ME} (he : DE X T W e m) : DI X T W tg e (dIStr m) := by
  refine pi_imp (pi_str he) ?_
  rintro σ H R ⟨δ, h, R', E', rs, rh, q, k, kx⟩
  refine ⟨δ, h, _, _, rs, rh, q, fun v d H1 h1 x1 r1 rh1 q1 => ?_, kx⟩
  cases d with
  | str x =>
    have hz : ∀ i : Nat, (tx x).cps[i]? = x[i]? := fun i => by simp [tx]
    refine ⟨tx x, rel_str r1, k _ _ _ H1 h1 x1 rh1 ⟨fun i H h kp rh ok hi => ?_, fun i H y H' h d kp rh ok hd yl => ?_, fun H h kp rh ok => ?_⟩ q1⟩
    · show i < (tx x).cps.size
      simpa [tx] using hi
    · obtain ⟨eH, c, ec, ey⟩ := yl
      subst eH
      rw [hz] at ec
      rw [List.getElem?_map, ec] at hd
      cases hd
      subst ey
      exact ⟨by simp only [Rep], rh, Ext.refl⟩
    · show (tx x).cps.size ≤ _
      simp [tx]
  | _ => exact False.elim q1
/-- the items of a list, of a tuple, of a text -/
def dISeq (m : ME) : MI := fun δ h R E => m δ h (fun d h1 => match d with
  | .str x => R (x.map fun c => .str [c]) (fun _ => True) h1
  | .tup ds => R ds (fun _ => True) h1
  | .ref a => (match h1 a with
    | some (.lst ds) => R ds (fun h => h a = some (.lst ds)) h1
    | _ => False)
  | _ => False) E
theorem it_list {H0 : Hp} {a : Addr} {ds : List D} : ItOk (cn X T) H0 (Itl X.K a) ds (fun h => h a = some (.lst ds)) := by
  refine ⟨fun i H h _ rh ok hi => ?_, fun i H x H' h d _ rh ok hd y => ?_, fun H h _ rh ok => ?_⟩
  · obtain ⟨ys, b1, b2⟩ := rh.at_ _ _ ok
    have hl := b2.length
    exact ⟨ys, ys[i], .inl (.inl b1), by rw [List.getElem?_eq_getElem (by omega)]⟩
  · obtain ⟨ys, b1, b2⟩ := rh.at_ _ _ ok
    obtain ⟨v, c1, c2⟩ := b2.get hd
    obtain ⟨eH, y2⟩ := y
    subst eH
    have := y2 ys (.inl (.inl b1))
    rw [c1] at this
    cases this
    exact ⟨c2, rh, Ext.refl⟩
  · obtain ⟨ys, b1, b2⟩ := rh.at_ _ _ ok
    exact ⟨ys, .inl (.inl b1), by rw [b2.length]; exact Nat.le_refl _⟩
theorem it_tup {H0 : Hp} {a : Addr} {xs : List V} {ds : List D} (t : Tp X.K H0 a xs) (r : Reps X.K H0 ds xs) : ItOk (cn X T) H0 (Itt X.K a) ds (fun _ => True) := by
  refine ⟨fun i H h kp rh ok hi => ?_, fun i H x H' h d kp rh ok hd y => ?_, fun H h kp rh ok => ?_⟩
  · have hl := r.length
    exact ⟨xs, xs[i], (t.keep kp).sqt, by rw [List.getElem?_eq_getElem (by omega)]⟩
  · obtain ⟨v, c1, c2⟩ := (Reps.keep kp _ _ r).get hd
    obtain ⟨eH, y2⟩ := y
    subst eH
    have := y2 xs (t.keep kp).sqt
    rw [c1] at this
    cases this
    exact ⟨c2, rh, Ext.refl⟩
  · exact ⟨xs, (t.keep kp).sqt, by rw [r.length]; exact Nat.le_refl _⟩
theorem it_str {H0 : Hp} {x : List Nat} : ItOk (cn X T) H0 (Its (tx x)) (x.map fun c => .str [c]) (fun _ => True) := by
  have hz : ∀ i : Nat, (tx x).cps[i]? = x[i]? := fun i => by simp [tx]
  refine ⟨fun i H h kp rh ok hi => ?_, fun i H y H' h d kp rh ok hd yl => ?_, fun H h kp rh ok => ?_⟩
  · show i < (tx x).cps.size
    simpa [tx] using hi
  · obtain ⟨eH, c, ec, ey⟩ := yl
    subst eH
    rw [hz] at ec
    rw [List.getElem?_map, ec] at hd
    cases hd
    subst ey
    exact ⟨by simp only [Rep], rh, Ext.refl⟩
  · show (tx x).cps.size ≤ _
    simp [tx]
theorem di_seq {W : WX} {tg e : Expr} {m : ME} (he : DE X T W e m) : DI X T W tg e (dISeq m) := by
  refine ⟨fun pins s σ H R I hh => ?_⟩
  obtain ⟨δ, h, R', E', rs, rh, q, k, kx⟩ := hh
  let Z : D → DHp → Prop := fun d h1 => match d with
    | .str x => R' (x.map fun c => .str [c]) (fun _ => True) h1
    | .tup ds => R' ds (fun _ => True) h1
    | .ref a => (match h1 a with
      | some (.lst ds) => R' ds (fun h => h a = some (.lst ds)) h1
      | _ => False)
    | _ => False
  refine thn (he.run pins s σ H (fun v H1 => ∃ d h1, Ext h h1 H H1 ∧ Rep X.K H1 d v ∧ RelH (cn X T) H1 h1 ∧ Z d h1) I ⟨δ, h, Z, E', rs, rh, q, fun v d H1 h1 x1 r1 rh1 z => ⟨d, h1, x1, r1, rh1, z⟩, kx⟩) fun u s1 ⟨v, H1, I1, rv, d, h1, x1, r1, rh1, z⟩ => ?_
  cases d with
  | str x =>
    have e := rel_str r1
    subst e
    obtain ⟨t, rfl⟩ := rv
    have q1 := k _ _ _ H1 h1 x1 rh1 it_str z
    cases ha : (tx x).cps.all (· < 128)
    · exact wpAny_pyIter_wide ha (pi_one (tk := s1.toks) I1 _ (turn_str _ (tx x) t "str_iterator" (.inr rfl)) ⟨_, Heap.get?_push_size _ rfl, rfl, rfl⟩ q1)
    · exact wpAny_pyIter_ascii ha (pi_one (tk := s1.toks) I1 _ (turn_str _ (tx x) t "str_ascii_iterator" (.inl rfl)) ⟨_, Heap.get?_push_size _ rfl, rfl, rfl⟩ q1)
  | tup ds =>
    obtain ⟨a, xs, e, t, rr⟩ := rel_tup r1
    subst e
    obtain rfl : u = Value.ref a := rv
    obtain ⟨its, rv2, p, hz⟩ := I1.tuple t.sqt
    exact wpAny_pyIter_tuple (show s1.heap.IsTuple a its.toArray from p) (pi_one (tk := s1.toks) I1 _ (turn_tuple a _) ⟨_, Heap.get?_push_size _ rfl, rfl, rfl⟩ (k _ _ _ H1 h1 x1 rh1 (it_tup t rr) z))
  | ref a =>
    have e := rel_ref r1
    subst e
    obtain rfl : u = Value.ref a := rv
    cases eo : h1 a with
    | none => simp [Z, eo] at z
    | some o =>
      cases o with
      | lst ds =>
        simp only [Z, eo] at z
        obtain ⟨xs, sq, rr, eH⟩ := sql_lst rh1 eo
        obtain ⟨its, rv2, p, hz⟩ := I1.list sq
        exact wpAny_pyIter_list p.isList (pi_one (tk := s1.toks) I1 _ (turn_list a _) ⟨_, Heap.get?_push_size _ rfl, rfl, rfl⟩ (k _ _ _ H1 h1 x1 rh1 it_list z))
      | _ => simp [Z, eo] at z
  | _ => exact False.elim z
end
end Tw
/-! Several except clauses with names; raise; over data. -/
namespace Tw
open PySem PySem.Spec PyProof.Rows L2
/-- behind a suite its name is gone -/
def goneE (D : Ends) (i : Nat) : Ends := { nx := fun τ K => D.nx (τ.set i none) K, rt := D.rt, bk := fun τ K => D.bk (τ.set i none) K, ct := fun τ K => D.ct (τ.set i none) K }
/-- a clause: the class, the name's slot, the suite -/
structure Cl where
  c : Value
  i : Nat
  ts : Addr → Value → Option Addr → TS
def wCls (K : PySem.W.Frag) (Wout : WX) (D : Ends) : List Cl → WX
  | [] => Wout
  | r :: rs => fun cls d σ H => ∃ b, PySem.W.exmOne K cls r.c = some b ∧ match b with
    | true => ∀ a, H a = none → r.ts a cls d (goneE D r.i) (σ.set r.i (some (.ref a))) H
    | false => wCls K Wout D rs cls d σ H
inductive ClsOk (X : Cx) : List ExceptHandler → List Cl → Prop
  | nil : ClsOk X [] []
  | cons {x n : Str} {r : Cl} {st : Stmt} {suite : List Stmt} {p1 p2 : Pos} {hds : List ExceptHandler} {rs : List Cl} (hi : X.N[r.i]? = some n) (hl : X.env.kindOf n = some .local) (hc : Names X x r.c)
      (hs : ∀ (a : Addr) (oe : Obj) (cls : Value) (d : Option Addr) (pn : List (Addr × Obj)), Zc cls d oe → (∃ vs, oe.data = .fields vs) → PSs (X.suite a ((a, oe) :: pn)) (st :: suite) (r.ts a cls d)) (t : ClsOk X hds rs) :
      ClsOk X (.ExceptHandler (some (.Name x p1)) (some n) (st :: suite) p2 :: hds) (r :: rs)
section
variable {X : Cx}
/-- how an ending of the suite ends the try, once the name is gone -/
theorem suite_ends {pins : List (Addr × Obj)} {a : Addr} {oe : Obj} {i : Nat} {n : Str} {pos : Pos} {D : Ends} {f : Flow} {s : Shared} (ok : X.Ok) (nod : X.N.Nodup) (hi : X.N[i]? = some n) (hl : X.env.kindOf n = some .local)
    (h : SP (X.suite a ((a, oe) :: (X.pn ++ pins))) [] (goneE D i) f s) : wpAny (model X.prog X.w) X.A (do bindName X.env n .none; unbindBehindTheSuite X.env n pos) (fun _ s' => SP X pins D f s') X.xe s := by
  cases f with
  | ret u => obtain ⟨v, τ, K, S, r, q⟩ := h; exact gone_ok (S.unsuite ok) nod hi hl fun s' J => ⟨v, _, K, J, r, q⟩
  | next => obtain ⟨τ, K, S, q⟩ := h; exact gone_ok (S.unsuite ok) nod hi hl fun s' J => ⟨_, K, J, q⟩
  | brk => obtain ⟨τ, K, S, q⟩ := h; exact gone_ok (S.unsuite ok) nod hi hl fun s' J => ⟨_, K, J, q⟩
  | cont => obtain ⟨τ, K, S, q⟩ := h; exact gone_ok (S.unsuite ok) nod hi hl fun s' J => ⟨_, K, J, q⟩
theorem try_back {pins pn' : List (Addr × Obj)} {xe : Value → Shared → Prop} {D : Ends} {f : Flow} {s : Shared} (ok : X.Ok) (h : SP (X.tr (X.pn ++ pins) xe) pn' D f s) : SP X pins D f s := by
  cases f with
  | ret u => obtain ⟨v, τ, K, J, r, q⟩ := h; exact ⟨v, τ, K, J.ofTry ok, r, q⟩
  | next => obtain ⟨τ, K, J, q⟩ := h; exact ⟨τ, K, J.ofTry ok, q⟩
  | brk => obtain ⟨τ, K, J, q⟩ := h; exact ⟨τ, K, J.ofTry ok, q⟩
  | cont => obtain ⟨τ, K, J, q⟩ := h; exact ⟨τ, K, J.ofTry ok, q⟩
theorem ps_tryM {body : List Stmt} {h0 : ExceptHandler} {hds : List ExceptHandler} {rs : List Cl} {pos : Pos} {tb : WX → TS} {Wout : WX} (hs : X.stack = X.env :: X.outer) (hf : X.env.frame = some X.env.locals) (nod : X.N.Nodup) (tk : Takes X Wout)
    (hb : ∀ (W : WX) (pn : List (Addr × Obj)) (xe : Value → Shared → Prop), Takes (X.tr pn xe) W → PassesOwn (model X.prog X.w) X.A X.env xe → PSs (X.tr pn xe) body (tb W)) (hh : ClsOk X (h0 :: hds) rs) :
    PS X (.Try body (h0 :: hds) [] [] pos) (fun D σ H => tb (wCls X.K Wout D rs) D σ H) := by
  refine ⟨fun pins s σ H D I h => wpAny_Try_except ?_⟩
  have ok := I.ok
  have fr : X.A.frames = some (X.env :: X.outer) := by rw [ok.frames, hs]
  refine wpAny_mono ((hb (wCls X.K Wout D rs) (X.pn ++ pins) (fun e s₁ => wpAny (model X.prog X.w) X.A (noteFrame e X.env) (fun _ s₂ => wpAny (model X.prog X.w) X.A (setFlight e none)
    (fun _ s₃ => wpAny (model X.prog X.w) X.A (handleBy e X.env (h0 :: hds)) (SP X pins D) X.xe s₃) X.xe s₂) X.xe s₁) (fun u s' xx => ?_) PassesOwn.looking).run [] s σ H D (I.toTry _) h) (fun f s1 q => ?_) fun _ _ z => z
  case refine_1 =>
    obtain ⟨a, B, sI, pn', τ, K, cls, d, rfl, J', nb, up, sky, na, os, ag, w⟩ := xx
    have J : Inv X pins τ K sI := J'.ofTry ok
    refine Sky.land Zc.steady fr hf (by rw [← hs]; exact sky) fun h3 fl up3 => ?_
    have J3 : Inv X pins τ K { s' with heap := h3 } := J.landed nb fl.1 (up.trans up3) os ag
    -- the exception is no frame
    have apart : ∀ b ∈ frs (X.env :: X.outer), b ≠ a := fun b hb z => by
      subst z
      obtain ⟨oe, vs, e1, _, e2⟩ := fl.there
      obtain ⟨_, o', e', nf⟩ := fl.2.2.1.mem hb
      rw [e1] at e'
      cases e'
      exact nf _ e2
    have n1 : a ≠ X.env.locals := fun z => apart a (List.mem_filterMap.mpr ⟨X.env, List.mem_cons_self, by rw [hf, z]⟩) rfl
    have n2 : a ∉ X.fs := fun hm => by
      obtain ⟨e, he, q⟩ := List.mem_filterMap.mp hm
      exact apart a (List.mem_filterMap.mpr ⟨e, List.mem_cons_of_mem _ he, q⟩) rfl
    obtain ⟨oe, vs, eo, zo, dv⟩ := fl.there
    have S3 := J3.suite eo dv na n1 n2
    have LT : PySem.W.Looks (model X.prog X.w) h3 (typeOf (.ref a)) cls := fun A Q E s k q => wpAny_typeOf_ref (k _ _ eo) (by rw [zo.1]; exact q)
    suffices go : ∀ {hs' : List ExceptHandler} {rs' : List Cl}, ClsOk X hs' rs' → wCls X.K Wout D rs' cls d τ K → wpAny (model X.prog X.w) X.A (handleBy (.ref a) X.env hs') (SP X pins D) X.xe { s' with heap := h3 } from go hh w
    intro hs' rs' hk
    induction hk with
    | nil =>
      intro w
      have out : wpAny (model X.prog X.w) X.A (setFlight (.ref a) X.env.frame) (fun _ s4 => wpAny (model X.prog X.w) X.A (throw (.ref a) : Sem Flow) (SP X pins D) X.xe s4) X.xe { s' with heap := h3 } := by
        rw [hf]
        exact HandSPX.setFlight_upZ fl fun h4 hh4 up4 => wpAny_throw (tk _ _ ⟨a, B, sI, pins, τ, K, cls, d, rfl, J, nb, (up.trans up3).trans up4, .inr (.inr (by rw [hs]; exact hh4)), na, os, ag, w⟩)
      refine wpAny_handleBy_nil ?_
      obtain ⟨_, _, _, oe, vs, T, _, _, he, _, hd, h1, _⟩ := id fl
      unfold PySem.passOn
      refine wpAny_bind (wpAny_field he hd h1 ?_)
      rw [if_neg (show ¬ ((Value.ref T == Value.none) = true) by simp)]
      first
        | exact wpAny_bind (wpAny_pure (wpAny_bind out))
        | exact wpAny_bind out
    | @cons x n r st suite p1 p2 hds2 rs2 hi hl hc hsu t ih =>
      rintro ⟨b, e1, w⟩
      have LM := PySem.W.exm_one (M := model X.prog X.w) J3.kIn LT e1
      refine wpAny_handleBy_cons (codeAny_handlers_test ?_) (by intro q; cases q)
      have named : ∀ {Q : Value → Shared → Prop} {E : Value → Shared → Prop}, Q r.c { s' with heap := h3 } → wpAny (model X.prog X.w) (X.A.mark (some (.ref a))) (eval (.Name x p1) X.env) Q E { s' with heap := h3 } := fun {Q E} q =>
        match hc with
        | ⟨hg, hdbg, .inl hm⟩ => ld_glob (X := X.suite a ((a, oe) :: (X.pn ++ pins))) S3 hg hm q hdbg
        | ⟨hg, hdbg, .inr ⟨hm, hv, hnn⟩⟩ => ld_blt (X := X.suite a ((a, oe) :: (X.pn ++ pins))) S3 hg hm hv q hnn hdbg
      refine named (LM.here ?_)
      cases b with
      | false => exact ih w
      | true =>
        refine codeAny_handlers_suite_as (HandSPX.lands_againZ fl fun h4 fl4 up4 => ?_)
        obtain ⟨oe4, vs4, eo4, zo4, dv4⟩ := fl4.there
        have S4 := (J.landed nb fl4.1 ((up.trans up3).trans up4) os ag : Inv X pins τ K { s' with heap := h4 }).suite eo4 dv4 na n1 n2
        refine store_ok (X := X.suite a ((a, oe4) :: (X.pn ++ pins))) (v := .ref a) S4 nod hi (.inl hl) rfl (fun s5 S5 => ?_) (.inr hl)
        exact wpAny_mono ((hsu a oe4 cls d (X.pn ++ pins) zo4 ⟨_, dv4⟩).run [] s5 _ K _ S5 (w a na)) (fun f s6 q => suite_ends ok nod hi hl q) (fun _ _ z => False.elim z)
  case refine_2 =>
    have q' := try_back ok q
    cases f with
    | next => exact wpAny_execs_nil q'
    | ret u => exact q'
    | brk => exact q'
    | cont => exact q'
end
end Tw
/-! raise, try, a lambda handed to a catcher; over data. -/
namespace Tw
open PySem PySem.Spec PyProof.Rows L2
def Ex.ix : Ex → Nat
  | .tear => 0 | .machine => 1 | .rule => 2 | .word => 3 | .stretch => 4 | .reading => 5 | .side => 6 | .count => 7 | .hint => 8 | .check => 9 | .kind => 10 | .things => 11 | .desk => 12 | .deed => 13 | .undo => 14 | .twice => 15 | .notThere => 16 | .tooGreat => 17 | .rivals => 18
/-- is every C a c? -/
def subE (C c : Ex) : Bool := c.ix == 0 || C.ix == c.ix
/-- what the head says of the classes kn -/
structure ExcK (K : PySem.W.Frag) (T : Tb) (kn : List Ex) : Prop where
  sub : ∀ C ∈ kn, ∀ c ∈ kn, PySem.W.exmOne K (.ref (T.ec C)) (.ref (T.ec c)) = some (subE C c)
section
variable {X : Cx} {T : Tb} {W : WX}
def dRaise (C : Ex) : MS := fun D δ h => D.ex C δ h
theorem ds_raise {C : Ex} {B newId initId : String} {bmB : List Value} {x m : Str} {j : Nat} {p p2 pos pos' : Pos} (calm : X.calm = true) (tk : Takes X W) (F : ExcBaseFacts B newId initId bmB) (q : PySem.W.excIn X.K (T.ec C) bmB newId = true) (gC : X.mg x = some (.ref (T.ec C)))
    (kC : PySem.W.keepIn X.K (.ref (T.ec C)) = true) (r : Raises X (.ref (T.ec C))) (hg : Gl X x) (hdb : (x == ("__debug__" : Str)) = false := by decide) : DS X T W (.Raise (some (.Call (.Name x p) [.Constant (.str m) j p2] [] pos)) none pos') (dRaise C) := by
  refine ps_imp (ps_raise calm tk (pmk_own F q gC kC r hg hdb)) ?_
  rintro D σ H ⟨δ, h, DD, rs, rh, q, k⟩
  exact k.ex C σ δ H h Ext.refl rs rh q
/-- a clause over data -/
structure DCl where
  c : Ex
  i : Nat
  m : MS
def goneD (D : DEnds) (i : Nat) : DEnds := { nx := fun δ h => D.nx (δ.set i none) h, rt := D.rt, bk := fun δ h => D.bk (δ.set i none) h, ct := fun δ h => D.ct (δ.set i none) h }
def dCls (C : Ex) (D : DEnds) (δ : DSt) (h : DHp) : List DCl → Prop
  | [] => D.ex C δ h
  | r :: rs => match subE C r.c with
    | true => ∀ a, h a = none → r.m (goneD D r.i) (δ.set r.i (some (.ref a))) h
    | false => dCls C D δ h rs
/-- try, where classes of kn may be raised -/
def dTry (kn : List Ex) (body : MS) (cls : List DCl) : MS := fun D δ h => body { nx := D.nx, rt := D.rt, bk := D.bk, ct := D.ct, ex := fun C δ' h' => C ∈ kn ∧ dCls C D δ' h' cls } δ h
/-! ### a lambda for a catcher: try: call() / except A as e: return 'a' .. / return 'none' -/
def catchV (K : PySem.W.Frag) (Q : VK) (H : Hp) (cls : Value) : List (Value × Str) → Prop
  | [] => False
  | (c, r) :: rs => ∃ b, PySem.W.exmOne K cls c = some b ∧ match b with
    | true => Q (.str r) H
    | false => catchV K Q H cls rs
def TCat (K : PySem.W.Frag) (rs : List (Value × Str)) (last : Str) : (XK → Hp → VK → Prop) → Hp → VK → Prop := fun tl H Q => tl (fun cls _ H' => catchV K Q H' cls rs) H (fun _ H' => Q (.str last) H')
/-- the clauses' text -/
inductive CatH (sg : Scope) (Ng : List Str) (mg : Str → Option Value) : List ExceptHandler → List (Value × Str) → Prop
  | nil : CatH sg Ng mg [] []
  | cons {x e r : Str} {c : Value} {i j : Nat} {p1 p2 p3 p4 : Pos} {hds : List ExceptHandler} {rs : List (Value × Str)} (hg : sg.names.lookup x = some .globalImplicit) (hm : mg x = some c) (hd : (x == ("__debug__" : Str)) = false) (hi : Ng[i]? = some e) (hl : sg.names.lookup e = some .local)
      (t : CatH sg Ng mg hds rs) : CatH sg Ng mg (.ExceptHandler (some (.Name x p1)) (some e) [.Return (some (.Constant (.str r) j p2)) p3] p4 :: hds) ((c, r) :: rs)
theorem cat_gives {Ng : List Str} {x a q last : Str} {sg : Scope} {g : Addr} {cdg : Value} {j : Nat} {h0 : ExceptHandler} {hds : List ExceptHandler} {rs : List (Value × Str)} {p1 p2 p3 p4 p5 p6 : Pos} (nod : Ng.Nodup) (hh : CatH sg Ng X.mg (h0 :: hds) rs) (h00 : ∀ f : Addr, (L2.start Ng [V.ref f])[0]? = some (some (V.ref f)))
    (hsw : ∀ (Y : Cx), swapsWith (.Call (.Name a p1) [] [] p2) none p3.line Y.env = pure false := by intro _; rfl) :
    LamX.GivesTo X Ng x sg g cdg [.Try [.Expr (.Call (.Name a p1) [] [] p2) p3] (h0 :: hds) [] [] p4, .Return (some (.Constant (.str last) j p5)) p6] a q (TCat X.K rs last) := by
  intro f c' s H Q tl act hc h
  generalize eY : (cxOf C8.CX0 X.prog X.w X.K X.mg X.base Ng x sg g cdg X.A X.stack s H C8.E0).nox = Y
  have eK : Y.K = X.K := by subst eY; rfl
  -- the clauses
  have cl : ∀ {hs : List ExceptHandler} {rs : List (Value × Str)}, CatH sg Ng X.mg hs rs → ∃ cs : List Cl, ClsOk Y hs cs ∧ ∀ (D : Ends) (cls : Value) (d : Option Addr) (σ : L2.St) (H : Hp), D.rt = Q → catchV X.K Q H cls rs → wCls Y.K (fun _ _ _ _ => False) D cs cls d σ H := by
    intro hs rs hk
    induction hk with
    | nil => exact ⟨[], .nil, fun _ _ _ _ _ _ z => z⟩
    | @cons x e r c i j p1 p2 p3 p4 hds rs hg hm hd hi hl t ih =>
      obtain ⟨cs, a1, a2⟩ := ih
      refine ⟨⟨c, i, fun _ _ _ => tRet (tC (.str r))⟩ :: cs, .cons (n := e) ?_ ?_ ?_ (fun a oe cls d pn _ _ => pss_one (ps_ret pe_str)) a1, fun D cls d σ H hD w => ?_⟩
      · subst eY; exact hi
      · subst eY; exact hl
      · subst eY; exact ⟨hg, hd, .inl hm⟩
      · obtain ⟨b, e1, w⟩ := w
        refine ⟨b, by rw [eK]; exact e1, ?_⟩
        cases b with
        | true => intro a na; show D.rt (.str r) H; rw [hD]; exact w
        | false => exact a2 D cls d σ H hD w
  obtain ⟨cs, ok, wd⟩ := cl hh
  have try_ := ps_tryM (X := Y) (pos := p4) (Wout := fun _ _ _ _ => False) (rs := cs) (body := [.Expr (.Call (.Name a p1) [] [] p2) p3]) (by subst eY; rfl) (by subst eY; rfl) (by subst eY; exact nod) LamX.takes0
    (tb := fun W D σ H => ∃ Ech : XK, (∀ cls d σ' H', Ech cls d H' → W cls d σ' H') ∧ σ[0]? = some (some (.ref f)) ∧ H c' = some (LamX.CodeO c' q) ∧ tl Ech H fun _ H' => D.nx σ H') (fun W pn xe tk _ => ?_) ok
  · refine ⟨_, pss_cons try_ (pss_one (ps_ret (pe_str (x := last)))), ?_⟩
    refine ⟨fun cls _ H' => catchV X.K Q H' cls rs, fun cls d σ' H' z => wd _ cls d σ' H' rfl z, h00 f, hc, h⟩
  · subst eY
    refine ⟨fun pins s' σ H' D I h' => ?_⟩
    obtain ⟨Ech, hW, h1, h2, h3⟩ := h'
    exact (pss_one (ps_expr (act W pn xe Ech p1 p2 tk hW) (hsw _))).run pins s' σ H' D I ⟨h1, h2, h3⟩
def catchD (C : Ex) (Q : DK) (h : DHp) : List (Ex × List Nat) → Prop
  | [] => False
  | r :: rs => match subE C r.1 with
    | true => Q (.str r.2) h
    | false => catchD C Q h rs
def dCat (kn : List Ex) (cls : List (Ex × List Nat)) (last : List Nat) (me : ME) : ME := fun δ h Q E => me δ h (fun _ h1 => Q (.str last) h1) (fun C h1 => C ∈ kn ∧ catchD C Q h1 cls)
def catVs (T : Tb) (cls : List (Ex × List Nat)) : List (Value × Str) := cls.map fun r => (Value.ref (T.ec r.1), tx r.2)
theorem catch_ok {kn : List Ex} (xk : ExcK X.K T kn) {Q' : DK} {Q : VK} {h : DHp} {H : Hp} {C : Ex} (hC : C ∈ kn) (rh : RelH (cn X T) H h) (k : ∀ z, Q' (.str z) h → Q (.str (tx z)) H) : ∀ (cls : List (Ex × List Nat)), (∀ r ∈ cls, r.1 ∈ kn) → catchD C Q' h cls → catchV X.K Q H (.ref (T.ec C)) (catVs T cls)
  | [], _, z => z
  | r :: rs, hk, z => by
    refine ⟨subE C r.1, xk.sub C hC r.1 (hk r (by simp)), ?_⟩
    unfold catchD at z
    cases e : subE C r.1 with
    | true => rw [e] at z; exact k _ z
    | false => rw [e] at z; exact catch_ok xk hC rh k rs (fun r' h' => hk r' (by simp [h'])) z
theorem relH_extN {c : Cn} {h : DHp} {H H1 : Hp} (rh : RelH c H h) (eN : LamX.ExtN H H1) (t1 : LamX.Tabs c.T.tabs H1) : RelH c H1 h ∧ Keeps H H1 := by
  have k : Keeps H H1 := ⟨fun a xs e => eN a _ e (fun ps z => by cases z), fun a ob u e => eN a _ e (fun ps z => by cases z)⟩
  refine ⟨⟨fun a o e => ?_, t1⟩, k⟩
  have z := rh.at_ a o e
  obtain ⟨u, e1, sn⟩ := z.some
  exact z.keep k (by rw [e1]; exact eN a u e1 (fun ps z => by subst z; exact sn))
theorem de_lamC {kn : List Ex} {cls : List (Ex × List Nat)} {last : List Nat} {me : ME} {x a : Str} {g c P : Addr} {k : Nat} {pg : Arguments} {sg : Scope} {dV kV doc pm cdv ct oc : Value} {an od : Option Addr} {osl : Array (Option Value)} {Ng : List Str}
    {params : Arguments} {body : Expr} {scope : Scope} {p lpos pos p1 p2 p3 p4 p5 p6 : Pos} {h0 : ExceptHandler} {hds : List ExceptHandler} {j : Nat} {lst : Str} (hlst : lst = tx last) (xk : ExcK X.K T kn) (hcl : ∀ r ∈ cls, r.1 ∈ kn)
    (hg : Gl X x) (hm : X.mg x = some (.ref g)) (hk : PySem.W.keepIn X.K (.ref g) = true)
    (lk : X.K.lookup g = some ⟨oc, od, .func (PySem.W.fnOf x x pg [.Try [.Expr (.Call (.Name a p1) [] [] p2) p3] (h0 :: hds) [] [] p4, .Return (some (.Constant (.str lst) j p5)) p6] sg dV kV doc pm an cdv ct), osl⟩) (hcg : PySem.W.codeIn X.K cdv x = true)
    (hb : L2.Binds X.K (PySem.W.fnOf x x pg [.Try [.Expr (.Call (.Name a p1) [] [] p2) p3] (h0 :: hds) [] [] p4, .Return (some (.Constant (.str lst) j p5)) p6] sg dV kV doc pm an cdv ct) [a] []) (Sg : FnScope Ng [a] sg) (hNg : Ng[0]? = some a) (hva : Vis sg a) (nod : Ng.Nodup)
    (h00 : ∀ f : Addr, (L2.start Ng [V.ref f])[0]? = some (some (V.ref f))) (hh : CatH sg Ng X.mg (h0 :: hds) (catVs T cls))
    (TB : LamX.TabB X.base X.mg c P) (hcode : X.env.code = .ref c) (hmT : (P, X.env.qual ++ "<lambda>") ∈ T.tabs) (hu : ∀ p ∈ T.tabs, p.1 = P → p.2 = X.env.qual ++ "<lambda>") (hr : Room (k + 2) X.A) (L : LamX.LamS X.env.scope scope) (hdef : defaultsOf params X.env = ([], []))
    (hbind : ∀ (q : Str) (cl : List (Str × Addr)) (pm cv ctv : Value), bindArgs (PySem.W.kla_fn "<lambda>" q params body scope cl pm cv ctv) ⟨[], []⟩ = pure [])
    (hbody : ∀ (A : Around) (outer : List Env) (s : Shared) (H : Hp) (E : XK) (f c' : Addr), Room k (A.deeper (LamX.lamEnv X scope s.heap.objs.size f c')) → DE (LamX.lamCx X A outer s H E scope f c') T (fun cls d _ H => E cls d H) body me)
    (hdb : (x == ("__debug__" : Str)) = false := by decide) (hd : (a == ("__debug__" : Str)) = false := by decide) (hcd : (a == ("__classdict__" : Str)) = false := by decide) :
    DE X T W (.Call (.Name x p) [.Lambda params body scope lpos] [] pos) (dCat kn cls last me) := by
  subst hlst
  refine pe_imp (LamX.pe_lamcall (T := T.tabs) (TT := TCat X.K (catVs T cls) (tx last)) (t := fun E => up (cn X T) (fun cls d _ H => E cls d H) me) hg hm hk lk hcg hb Sg hNg hva (cat_gives nod hh h00) TB hcode hmT hu hr L hdef hbind hbody hdb hd hcd) ?_
  rintro σ H Q ⟨δ, h, Q', E', rs, rh, q, k, kx⟩
  refine ⟨rh.tabs, fun H1 eN T1 => ?_⟩
  obtain ⟨rh1, kp⟩ := relH_extN rh eN T1
  have x1 : Ext h h H H1 := fun a o n e nt => ⟨eN a o e nt, n⟩
  refine ⟨δ, h, _, _, rs.keep kp, rh1, q, fun v d H' h' x' r' rh' q' => k _ _ _ _ (x1.trans x') mk_str rh' q', fun C H' h' x' rh' q' => ?_⟩
  exact catch_ok xk q'.1 rh' (fun z hz => k _ _ _ _ (x1.trans x') mk_str rh' hz) cls hcl q'.2
/-- a catcher of the program: try: call() / except A as e: return 'a' .. / return last -/
inductive HasCat (K : PySem.W.Frag) (mg : Str → Option Value) (T : Tb) (x : Str) (cls : List (Ex × List Nat)) (last : List Nat) : Prop
  | mk {lst a : Str} {g : Addr} {pg : Arguments} {sg : Scope} {dV kV doc pm cdv ct oc : Value} {an od : Option Addr} {osl : Array (Option Value)} {Ng : List Str} {h0 : ExceptHandler} {hds : List ExceptHandler} {j : Nat} {p1 p2 p3 p4 p5 p6 : Pos} (hlst : lst = tx last) (hm : mg x = some (.ref g)) (hk : PySem.W.keepIn K (.ref g) = true)
    (lk : K.lookup g = some ⟨oc, od, .func (PySem.W.fnOf x x pg [.Try [.Expr (.Call (.Name a p1) [] [] p2) p3] (h0 :: hds) [] [] p4, .Return (some (.Constant (.str lst) j p5)) p6] sg dV kV doc pm an cdv ct), osl⟩) (hcg : PySem.W.codeIn K cdv x = true)
    (hb : L2.Binds K (PySem.W.fnOf x x pg [.Try [.Expr (.Call (.Name a p1) [] [] p2) p3] (h0 :: hds) [] [] p4, .Return (some (.Constant (.str lst) j p5)) p6] sg dV kV doc pm an cdv ct) [a] []) (Sg : FnScope Ng [a] sg) (hNg : Ng[0]? = some a) (hva : Vis sg a) (h00 : ∀ f : Addr, (L2.start Ng [V.ref f])[0]? = some (some (V.ref f))) (hh : CatH sg Ng mg (h0 :: hds) (catVs T cls))
    (hd : (a == ("__debug__" : Str)) = false) (hcd : (a == ("__classdict__" : Str)) = false) : HasCat K mg T x cls last
theorem de_lam {kn : List Ex} {cls : List (Ex × List Nat)} {last : List Nat} {me : ME} {x : Str} {c P : Addr} {k j : Nat} {params : Arguments} {body : Expr} {scope : Scope} {p lpos pos : Pos} (H : HasCat X.K X.mg T x cls last) (xk : ExcK X.K T kn) (hcl : ∀ r ∈ cls, r.1 ∈ kn) (hg : Gl X x)
    (TB : LamX.TabB X.base X.mg c P) (hcode : X.env.code = .ref c) (hmT : (P, X.env.qual ++ "<lambda>") ∈ T.tabs) (hu : ∀ p ∈ T.tabs, p.1 = P → p.2 = X.env.qual ++ "<lambda>") (hr : Room j X.A) (hkj : k + 2 ≤ j) (L : LamX.LamS X.env.scope scope) (hdef : defaultsOf params X.env = ([], []))
    (hbind : ∀ (q : Str) (cl : List (Str × Addr)) (pm cv ctv : Value), bindArgs (PySem.W.kla_fn "<lambda>" q params body scope cl pm cv ctv) ⟨[], []⟩ = pure [])
    (hbody : ∀ (A : Around) (outer : List Env) (s : Shared) (H : Hp) (E : XK) (f c' : Addr), Room k (A.deeper (LamX.lamEnv X scope s.heap.objs.size f c')) → DE (LamX.lamCx X A outer s H E scope f c') T (fun cls d _ H => E cls d H) body me)
    (hdb : (x == ("__debug__" : Str)) = false := by decide) : DE X T W (.Call (.Name x p) [.Lambda params body scope lpos] [] pos) (dCat kn cls last me) := by
  obtain ⟨hlst, hm, hk, lk, hcg, hb, Sg, hNg, hva, h00, hh, hd, hcd⟩ := H
  exact de_lamC hlst xk hcl hg hm hk lk hcg hb Sg hNg hva Sg.nd h00 hh TB hcode hmT hu (hr.mono hkj) L hdef hbind hbody hdb hd hcd
end
end Tw
/-! What a walk takes from the head; more rules. -/
namespace Tw
open PySem PySem.Spec PyProof.Rows L2
section
variable {X : Cx} {T : Tb} {W : WX} {e : Expr} {m : ME} {pos : Pos}
theorem dt_val (he : DE X T W e m) (hi : ∀ whole, isTrue e X.env whole = (do let v ← whole; standAt e.pos; holding [v] (truthy v)) := by intro _; rfl) : DT X T W e (dTest m) := pt_imp (pt_val he hi) (up_test (fun _ _ _ z => z))
/-- a def of the program that keeps its promise -/
def Has (P : Program) (w : World) (K : PySem.W.Frag) (mg : Str → Option Value) (base : Heap) (T : Tb) (k : Nat) (x : Str) (ps : List Str) (sp : SpD) : Prop :=
  ∃ f fd, FnOk P w K mg base (L2.CX P w) k f fd ps (lift ⟨K, w, T⟩ ps.length sp) ∧ mg x = some (.ref f) ∧ PySem.W.keepIn K (.ref f) = true ∧ Binds K fd ps []
theorem de_fn {k j n : Nat} {x : Str} {ps : List Str} {sp : SpD} {p : Pos} {e : Expr} {es : List Expr} {ms : MA} (F : Has X.prog X.w X.K X.mg X.base T k x ps sp) (hn : ps.length = n) (hr : Room j X.A) (hk : k ≤ j) (hg : Gl X x) (tk : Takes X W) (ha : DA X T W (e :: es) ms) (hdb : (x == ("__debug__" : Str)) = false := by decide)
    (he : starEach (e :: es) X.env = (false, eval e X.env) :: starEach es X.env := by rfl) (hpl : (backTo pos (starEach es X.env)).any (·.1) = false := by rfl) : DE X T W (.Call (.Name x p) (e :: es) [] pos) (dCall n sp ms) := by
  subst hn
  obtain ⟨f, fd, ok, hm, kp, b⟩ := F
  exact de_call ok (hr.mono hk) hg hm kp b tk ha hdb he hpl
/-- an exception class of the program -/
structure HasEx (K : PySem.W.Frag) (mg : Str → Option Value) (T : Tb) (x : Str) (C : Ex) : Prop where
  at_ : mg x = some (.ref (T.ec C))
  ok : PySem.W.excIn K (T.ec C) He.veBase "ValueError.__new__" = true
  kp : PySem.W.keepIn K (.ref (T.ec C)) = true
  sub : PySem.W.subIn K (.ref (T.ec C)) (.type "BaseException") = some true
  ty : PySem.W.typeIn K (.ref (T.ec C)) = some (.type "type")
theorem de_gi {x : Str} {i : Int} (h : ∃ t, X.mg x = some (.int i t)) (hg : Gl X x) (hd : (x == ("__debug__" : Str)) = false := by decide) : DE X T W (.Name x pos) (dC (.int i)) := by
  obtain ⟨t, h⟩ := h
  exact de_glob (v := .int i) hg h ⟨t, rfl⟩ (fun _ => mk_int) hd
theorem de_gs {x : Str} {z : List Nat} {y : Str} (h : ∃ t, X.mg x = some (.str y t)) (hy : y = tx z) (hg : Gl X x) (hd : (x == ("__debug__" : Str)) = false := by decide) : DE X T W (.Name x pos) (dC (.str z)) := by
  subst hy
  obtain ⟨t, h⟩ := h
  exact de_glob (v := .str (tx z)) hg h ⟨t, rfl⟩ (fun _ => mk_str) hd
/-- a built-in class as a value -/
theorem de_ty {x : Str} {n : String} (hg : Gl X x) (hm : X.mg x = none) (hv : bootBuiltins x = some (.type n)) (hn : x ≠ "__name__" := by decide) (hdb : (x == ("__debug__" : Str)) = false := by decide) : DE X T W (.Name x pos) (dC (.ty n)) := by
  exact de_c (v := .ty n) (pe_bltn hg hm hv rfl hn hdb) fun _ => by simp only [Rep]
/-- x in D, x not in D, D[x] for a dict D of the module -/
def dInC (f : List Nat → Option D) (neg : Bool) (ma : ME) : ME := fun δ h Q E => ma δ h (fun d h1 => match d with | .str z => Q (.bl (xor neg (f z).isSome)) h1 | _ => False) E
def dIxC (f : List Nat → Option D) (mb : ME) : ME := fun δ h Q E => mb δ h (fun d h1 => match d with | .str z => ∃ v, f z = some v ∧ Q v h1 | _ => False) E
def HasKD (P : Program) (w : World) (K : PySem.W.Frag) (mg : Str → Option Value) (x : Str) (f : List Nat → Option D) : Prop := ∃ a, mg x = some (.ref a) ∧ (∃ es n, KDict K w a es n) ∧
  ∀ z, (f z = none ∧ PySem.W.nsIn K a (tx z) = some none) ∨ ∃ d v u, f z = some d ∧ PySem.W.nsIn K a (tx z) = some (some u) ∧ RelV v u ∧ ∀ H, Rep K H d v
theorem de_inC {x : Str} {f : List Nat → Option D} {a : Expr} {ma : ME} {p : Pos} (hD : HasKD X.prog X.w X.K X.mg x f) (hg : Gl X x) (ha : DE X T W a ma) (hd : (x == ("__debug__" : Str)) = false := by decide)
    (hm : behindInMarks .In (.Name x p) = false := by with_unfolding_all rfl) : DE X T W (.Compare a [.In] [.Name x p] pos) (dInC f false ma) := by
  obtain ⟨r, h1, h2, h3⟩ := hD
  refine pe_imp (pe_cmpR (or_inK (X := X) (T := T) (a := r) (f := f) ⟨h2, h3⟩) ha (pe_glob (v := .ref r) hg h1 rfl hd) hm) ?_
  rintro σ H Q ⟨δ, h, Q', E', rs, rh, q, k, kx⟩
  refine ⟨δ, h, _, E', rs, rh, q, fun v d H1 h1 x1 r1 rh1 q1 => ⟨d, .ref r, h1, Q', r1, mk_ref, rh1, ?_, k.after x1⟩, kx⟩
  cases d with
  | str z => exact ⟨rfl, q1⟩
  | _ => exact False.elim q1
theorem de_notInC {x : Str} {f : List Nat → Option D} {a : Expr} {ma : ME} {p : Pos} (hD : HasKD X.prog X.w X.K X.mg x f) (hg : Gl X x) (ha : DE X T W a ma) (hd : (x == ("__debug__" : Str)) = false := by decide)
    (hm : behindInMarks .NotIn (.Name x p) = false := by with_unfolding_all rfl) : DE X T W (.Compare a [.NotIn] [.Name x p] pos) (dInC f true ma) := by
  obtain ⟨r, h1, h2, h3⟩ := hD
  refine pe_imp (pe_cmpR (or_notInK (X := X) (T := T) (a := r) (f := f) ⟨h2, h3⟩) ha (pe_glob (v := .ref r) hg h1 rfl hd) hm) ?_
  rintro σ H Q ⟨δ, h, Q', E', rs, rh, q, k, kx⟩
  refine ⟨δ, h, _, E', rs, rh, q, fun v d H1 h1 x1 r1 rh1 q1 => ⟨d, .ref r, h1, Q', r1, mk_ref, rh1, ?_, k.after x1⟩, kx⟩
  cases d with
  | str z => exact ⟨rfl, q1⟩
  | _ => exact False.elim q1
theorem dt_notInC {x : Str} {f : List Nat → Option D} {a : Expr} {ma : ME} {p : Pos} (hD : HasKD X.prog X.w X.K X.mg x f) (hg : Gl X x) (ha : DE X T W a ma) (hd : (x == ("__debug__" : Str)) = false := by decide)
    (hm : behindInMarks .NotIn (.Name x p) = false := by with_unfolding_all rfl) : DT X T W (.Compare a [.NotIn] [.Name x p] pos) (dTest (dInC f true ma)) := by
  obtain ⟨r, h1, h2, h3⟩ := hD
  refine pt_imp (pt_cmpR (or_notInK (X := X) (T := T) (a := r) (f := f) ⟨h2, h3⟩) ha (pe_glob (v := .ref r) hg h1 rfl hd) hm) (up_test ?_)
  rintro σ H Q ⟨δ, h, Q', E', rs, rh, q, k, kx⟩
  refine ⟨δ, h, _, E', rs, rh, q, fun v d H1 h1 x1 r1 rh1 q1 => ⟨d, .ref r, h1, Q', r1, mk_ref, rh1, ?_, k.after x1⟩, kx⟩
  cases d with
  | str z => exact ⟨rfl, q1⟩
  | _ => exact False.elim q1
theorem de_ixC {x : Str} {f : List Nat → Option D} {b : Expr} {mb : ME} {p : Pos} (hD : HasKD X.prog X.w X.K X.mg x f) (hg : Gl X x) (hb : DE X T W b mb) (hs : PlainIx b) (hd : (x == ("__debug__" : Str)) = false := by decide) : DE X T W (.Subscript (.Name x p) b pos) (dIxC f mb) := by
  obtain ⟨r, h1, h2, h3⟩ := hD
  refine pe_imp (pe_ix (ix_K (X := X) (T := T) (a := r) (f := f) ⟨h2, h3⟩) (pe_glob (v := .ref r) hg h1 rfl hd) hb hs) ?_
  rintro σ H Q ⟨δ, h, Q', E', rs, rh, q, k, kx⟩
  refine ⟨δ, h, _, E', rs, rh, q, fun v d H1 h1 x1 r1 rh1 q1 => ⟨.ref r, d, h1, Q', mk_ref, r1, rh1, ?_, k.after x1⟩, kx⟩
  cases d with
  | str z => exact ⟨rfl, q1⟩
  | _ => exact False.elim q1
/-! enumerate(xs) of a list -/
def enumD (ds : List D) : List D := ds.mapIdx fun i d => .tup [.int (i : Nat), d]
def dIEnum (ms : MA) : MI := fun δ h R E => ms δ h (fun xs h1 => match xs with
  | [.ref a] => ∃ ds, h1 a = some (.lst ds) ∧ R (enumD ds) (fun h => h a = some (.lst ds)) h1
  | _ => False) E
theorem it_enum {H0 : Hp} {a : Addr} {ds : List D} : ItOk (cn X T) H0 (Ite X.K a) (enumD ds) (fun h => h a = some (.lst ds)) := by
  refine ⟨fun i H h _ rh ok hi => ?_, fun i H x H' h d _ rh ok hd y => ?_, fun H h _ rh ok => ?_⟩
  · obtain ⟨ys, b1, b2⟩ := rh.at_ _ _ ok
    have hl := b2.length
    have hi' : i < ds.length := by simpa [enumD] using hi
    exact ⟨ys, ys[i], .inl (.inl b1), by rw [List.getElem?_eq_getElem (by omega)]⟩
  · obtain ⟨ys, b1, b2⟩ := rh.at_ _ _ ok
    obtain ⟨p, z, e1, n, e2, e3⟩ := y
    have q := e3 ys (.inl (.inl b1))
    unfold enumD at hd
    rw [List.getElem?_mapIdx] at hd
    cases ed : ds[i]? with
    | none => rw [ed] at hd; cases hd
    | some d0 =>
      rw [ed] at hd
      cases hd
      obtain ⟨v, c1, c2⟩ := b2.get ed
      rw [q] at c1
      cases c1
      subst e1 e2
      obtain ⟨rh2, x2⟩ := rh.hid (u := .tup [.int (i : Nat), z]) n
      exact ⟨mk_tup (.inl upd_same) (Reps.cons mk_int (Reps.one (Rep.keep (keeps_new n) _ _ c2))), rh2, x2⟩
  · obtain ⟨ys, b1, b2⟩ := rh.at_ _ _ ok
    exact ⟨ys, .inl (.inl b1), by rw [b2.length]; simp [enumD]⟩
theorem di_enum {e : Expr} {ms : MA} {p pos tpos : Pos} {elts : List Expr} {kk : Nat} (hg : Gl X "enumerate") (hm : X.mg "enumerate" = none) (ha : DA X T W [e] ms) (hs : starEach [e] X.env = [(false, eval e X.env)] := by rfl) : DI X T W (.Tuple elts kk tpos) (.Call (.Name "enumerate" p) [e] [] pos) (dIEnum ms) := by
  refine pi_imp (pi_enum hg hm ha hs) ?_
  rintro σ H R ⟨δ, h, R', E', rs, rh, q, k, kx⟩
  have fin : ∀ (vs : List V) (ds : List D) (H1 : Hp) (h1 : DHp), Ext h h1 H H1 → Reps X.K H1 ds vs → RelH (cn X T) H1 h1 → (match ds with | [.ref a] => ∃ ds, h1 a = some (.lst ds) ∧ R' (enumD ds) (fun h => h a = some (.lst ds)) h1 | _ => False) → ∃ a xs, vs = [.ref a] ∧ SqL X.K H1 a xs ∧ R (Ite X.K a) H1 := by
    intro vs ds H1 h1 x1 r1 rh1 q1
    match ds, q1, r1 with
    | [.ref a], ⟨ds, e, q1⟩, r1 =>
      obtain ⟨v, ev, r2⟩ := reps1 r1
      obtain ⟨xs, sq, _, _⟩ := sql_lst rh1 e
      exact ⟨a, xs, by rw [ev, rel_ref r2], sq, k _ _ _ H1 h1 x1 rh1 it_enum q1⟩
  exact ⟨δ, h, _, _, rs, rh, q, fin, kx⟩
/-! side conditions by computing -/
def visB (sc : Scope) (x : Str) : Bool := match sc.names.lookup x with
  | some .local => true
  | some .cell => true
  | some .free => true
  | _ => false
theorem vis_by {sc : Scope} {x : Str} (h : visB sc x = true) : Vis sc x := by
  unfold visB at h
  split at h <;> first
    | exact .inl (by assumption)
    | exact .inr (.inl (by assumption))
    | exact .inr (.inr (by assumption))
    | cases h
def locB (sc : Scope) (x : Str) : Bool := match sc.names.lookup x with
  | some .local => true
  | some .cell => true
  | _ => false
theorem loc_by {sc : Scope} {x : Str} (h : locB sc x = true) : Loc sc x := by
  unfold locB at h
  split at h <;> first
    | exact .inl (by assumption)
    | exact .inr (by assumption)
    | cases h
theorem bt_len : bootBuiltins "len" = some (.builtin "len") := by decide +kernel
theorem bt_all : bootBuiltins "all" = some (.builtin "all") := by decide +kernel
theorem bt_any : bootBuiltins "any" = some (.builtin "any") := by decide +kernel
theorem bt_min : bootBuiltins "min" = some (.builtin "min") := by decide +kernel
theorem bt_max : bootBuiltins "max" = some (.builtin "max") := by decide +kernel
theorem bt_sum : bootBuiltins "sum" = some (.builtin "sum") := by decide +kernel
theorem bt_repr : bootBuiltins "repr" = some (.builtin "repr") := by decide +kernel
theorem bt_sorted : bootBuiltins "sorted" = some (.builtin "sorted") := by decide +kernel
theorem bt_int : bootBuiltins "int" = some (.type "int") := by decide +kernel
theorem bt_bool : bootBuiltins "bool" = some (.type "bool") := by decide +kernel
theorem bt_str : bootBuiltins "str" = some (.type "str") := by decide +kernel
theorem bt_list : bootBuiltins "list" = some (.type "list") := by decide +kernel
theorem bt_tuple : bootBuiltins "tuple" = some (.type "tuple") := by decide +kernel
theorem bt_isi : bootBuiltins "isinstance" = some (.builtin "isinstance") := by decide +kernel
/-! isinstance(x, T), T a built-in class -/
inductive Ty5 where
  | int | str | bool | tup | lst
def Ty5.nm : Ty5 → String
  | .int => "int" | .str => "str" | .bool => "bool" | .tup => "tuple" | .lst => "list"
def isA (t : Ty5) (d : D) (h : DHp) : Option Bool := match d with
  | .non => some false
  | .bl _ => (match t with | .int => some true | .bool => some true | _ => some false)
  | .int _ => (match t with | .int => some true | _ => some false)
  | .str _ => (match t with | .str => some true | _ => some false)
  | .tup _ => (match t with | .tup => some true | _ => some false)
  | .scr _ => (match t with | .lst => some true | _ => some false)
  | .ref a => (match h a with
    | some (.lst _) => (match t with | .lst => some true | _ => some false)
    | some (.dct _) => some false
    | _ => none)
  | .ty _ => none
  | .fn _ => none
theorem isA_ty {t : Ty5} {d : D} {h : DHp} {b : Bool} (e : isA t d h = some b) : ∃ n, tyOfD d h = some n ∧ b = isTy n t.nm := by
  cases d with
  | ref a =>
    simp only [isA, tyOfD] at e ⊢
    cases q : h a with
    | none => simp [q] at e
    | some o => cases o <;> simp only [q, reduceCtorEq] at e ⊢ <;> refine ⟨_, rfl, ?_⟩ <;> cases t <;> cases e <;> rfl
  | ty n => cases e
  | fn n => cases e
  | _ => refine ⟨_, rfl, ?_⟩ <;> cases t <;> cases e <;> rfl
def dIsA (t : Ty5) (m : ME) : ME := fun δ h Q E => m δ h (fun d h1 => ∃ b, isA t d h1 = some b ∧ Q (.bl b) h1) E
theorem de_isA {t : Ty5} {x : Str} {p p2 : Pos} (bt : bootBuiltins x = some (.type t.nm)) (hg2 : Gl X x) (hm2 : X.mg x = none) (hg : Gl X "isinstance") (hm : X.mg "isinstance" = none) (he : DE X T W e m) (hn : x ≠ "__name__" := by decide) (hdb : (x == ("__debug__" : Str)) = false := by decide)
    (h1 : starEach (e :: [.Name x p2]) X.env = (false, eval e X.env) :: starEach [.Name x p2] X.env := by rfl) (h2 : starEach [.Name x p2] X.env = (false, eval (.Name x p2) X.env) :: starEach [] X.env := by rfl) (hpl : (backTo pos (starEach [.Name x p2] X.env)).any (·.1) = false := by rfl) :
    DE X T W (.Call (.Name "isinstance" p) [e, .Name x p2] [] pos) (dIsA t m) := by
  refine pe_imp (pe_callB (x := "isinstance") call_isi hg hm bt_isi (pa_cons he (pa_cons (pe_bltn (v := .ty t.nm) hg2 hm2 bt rfl hn hdb) pa_nil h2) h1) (by decide) (by decide) h1 hpl) ?_
  rintro σ H Q ⟨δ, h, Q', E', rs, rh, q, k, kx⟩
  refine ⟨δ, h, _, E', rs, rh, q, fun v d H1 h1 x1 r1 rh1 q1 => ?_, kx⟩
  show rIsi X.K [v, .ty t.nm] H1 Q
  obtain ⟨b, ea, q1⟩ := q1
  obtain ⟨n, e1, e2⟩ := isA_ty ea
  have hm5 : t.nm ∈ ["int", "bool", "str", "tuple", "list"] := by cases t <;> simp [Ty5.nm]
  subst e2
  exact ⟨v, _, _, _, _, rfl, .ty _, tyX_of r1 rh1 e1, kit_all _ n t.nm (tyOfD_in e1) hm5, k _ _ _ _ x1 mk_bl rh1 q1⟩
/-- room, as numbers -/
theorem hu_of {k : Nat} {A : Around} (r : Room k A) : A.units + 65 < cLine := by have := r.un; omega
theorem hu_64 {n : Nat} (h : n + 65 < cLine) : n + 64 < cLine := by omega
theorem hu_8 {n : Nat} (h : n + 65 < cLine) : n + 8 < cLine := by omega
end
end Tw
/-! Defs with lambdas; the law's def, at whose call no repr runs; the end. -/
namespace Tw
open PySem PySem.Spec PyProof.Rows L2
/-- a def's promise where no repr is under way -/
structure FnG (P : Program) (w : World) (K : PySem.W.Frag) (mg : Str → Option Value) (base : Heap) (CX : CXT) (k : Nat) (f : Addr) (fd : FuncData) (ps : List Str) (sp : Sp) : Prop where
  run : ∀ (A : Around) (outer : List Env) (s : Shared) (H : Hp) (args : Args) (us : List Value) (vs : List V) (Q : VK) (E : XK), Room k A → A.guards = some [] → Env0 P w K mg base A outer s H → BindsTo s fd args (ps.zip us) → Vals vs us → sp vs H Q E →
    codeAny (model P w) A (.call (.ref f) args) (CR CX outer P w H s Q E) s
section
variable {P : Program} {w : World} {K : PySem.W.Frag} {mg : Str → Option Value} {base : Heap} {x qual : Str} {params : Arguments} {body : List Stmt} {scope : Scope} {fd : FuncData} {N ps : List Str} {k : Nat} {sp : SpD} {T : Tb} {at_ : He.Defn}
abbrev lamCode (K : PySem.W.Frag) (at_ : He.Defn) : Value := .ref (He.cT K at_).1
/-- the code object of a def that the head tells of -/
theorem code_at (F : FunD K x qual params body scope [] [] (He.fAd K at_) fd) : ∃ oc od osl dV kV doc pm an ct, fd = PySem.W.fnOf x qual params body scope dV kV doc pm an (lamCode K at_) ct ∧ K.lookup (He.fAd K at_) = some ⟨oc, od, .func (PySem.W.fnOf x qual params body scope dV kV doc pm an (lamCode K at_) ct), osl⟩ ∧ PySem.W.codeIn K (lamCode K at_) qual = true := by
  obtain ⟨oc, od, dV, kV, doc, pm, an, cdv, ct, osl, e, lk, hcd, _, _⟩ := F.ex
  obtain ⟨c, ec⟩ := He.codeIn_ref hcd
  subst ec
  have e2 : He.codeOf K at_ = c := He.codeOf_eq (fd := fd) lk (by rw [e])
  have e3 : lamCode K at_ = .ref c := congrArg Value.ref e2
  rw [e3]
  subst e
  exact ⟨oc, od, osl, dV, kV, doc, pm, an, ct, rfl, lk, hcd⟩
abbrev cxL (P : Program) (w : World) (K : PySem.W.Frag) (mg : Str → Option Value) (base : Heap) (N : List Str) (qual : Str) (scope : Scope) (at_ : He.Defn) (A : Around) (outer : List Env) (s : Shared) (H : Hp) (E : XK) : Cx :=
  cxOf (L2.CX P w) P w K mg base N qual scope (He.fAd K at_) (lamCode K at_) A outer s H E
/-- the body's judgement, with what the context gives -/
def BodyL (P : Program) (w : World) (K : PySem.W.Frag) (mg : Str → Option Value) (base : Heap) (N ps : List Str) (qual : Str) (scope : Scope) (body : List Stmt) (at_ : He.Defn) (T : Tb) (k : Nat) (sp : SpD) (G : Around → Prop) : Prop :=
  ∀ (A : Around) (outer : List Env) (s : Shared) (H : Hp) (E : XK), Room k (A.deeper (envOfC qual scope s.heap.objs.size (He.fAd K at_) (lamCode K at_))) → G (A.deeper (envOfC qual scope s.heap.objs.size (He.fAd K at_) (lamCode K at_))) →
    Takes (cxL P w K mg base N qual scope at_ A outer s H E) (fun cls d _ H => E cls d H) →
    PassesOwn (model P w) (A.deeper (envOfC qual scope s.heap.objs.size (He.fAd K at_) (lamCode K at_))) (envOfC qual scope s.heap.objs.size (He.fAd K at_) (lamCode K at_)) (cxL P w K mg base N qual scope at_ A outer s H E).xe →
    ∃ m, DSs (cxL P w K mg base N qual scope at_ A outer s H E) T (fun cls d _ H => E cls d H) body m ∧
      ∀ ds h Q' E', ds.length = ps.length → sp ds h Q' E' → m (endsD Q' E') (startD N ds) h
theorem body_run {G : Around → Prop} (hb : BodyL P w K mg base N ps qual scope body at_ T k sp G) {A : Around} {outer : List Env} {s : Shared} {H : Hp} {vs : List V} {Q : VK} {E : XK} (hr : Room k (A.deeper (envOfC qual scope s.heap.objs.size (He.fAd K at_) (lamCode K at_))))
    (hg : G (A.deeper (envOfC qual scope s.heap.objs.size (He.fAd K at_) (lamCode K at_)))) (h : lift ⟨K, w, T⟩ ps.length sp vs H Q E) :
    ∃ t, PSs (cxL P w K mg base N qual scope at_ A outer s H E) body t ∧ t { nx := fun _ H' => Q .non H', rt := Q } (L2.start N vs) H := by
  obtain ⟨ds, h, Q', E', hn, r, rh, q, k1, k2⟩ := h
  obtain ⟨m, hm, hq⟩ := hb A outer s H E hr hg (takes_of rfl rfl rfl rfl) (passes_of rfl)
  exact ⟨_, hm, startD N ds, h, _, start_rel r, rh, hq ds h Q' E' hn q, ends_bk k1 k2⟩
theorem fnL (F : FunD K x qual params body scope [] [] (He.fAd K at_) fd) (S : FnScope N ps scope) (hb : BodyL P w K mg base N ps qual scope body at_ T k sp fun _ => True) :
    FnOk P w K mg base (L2.CX P w) (k + 1) (He.fAd K at_) fd ps (lift ⟨K, w, T⟩ ps.length sp) := by
  obtain ⟨oc, od, osl, dV, kV, doc, pm, an, ct, e, lk, hcd⟩ := code_at F
  subst e
  exact fn_of lk hcd S (fun vs H Q E hh => by obtain ⟨ds, h, Q', E', hn, r, _⟩ := hh; rw [r.length, hn]) fun A outer s H vs Q E hr hsp => body_run hb hr True.intro hsp
theorem fnG (F : FunD K x qual params body scope [] [] (He.fAd K at_) fd) (S : FnScope N ps scope) (hb : BodyL P w K mg base N ps qual scope body at_ T k sp fun A => A.guards = some []) :
    FnG P w K mg base (L2.CX P w) (k + 1) (He.fAd K at_) fd ps (lift ⟨K, w, T⟩ ps.length sp) := by
  obtain ⟨oc, od, osl, dV, kV, doc, pm, an, ct, e, lk, hcd⟩ := code_at F
  subst e
  refine ⟨fun A outer s H args us vs Q E hr hg e0 hbd rv hsp => ?_⟩
  have hl : vs.length = ps.length := by
    obtain ⟨ds, h, Q', E', hn, r, _⟩ := hsp
    rw [r.length, hn]
  exact LamX.run_ofS lk hcd S hr e0 hbd rv hl fun hr' => body_run hb hr' hg hsp
end
/-! ### repr -/
def bRepr : RC := fun ds h Q => match ds with
  | [d] => ∃ p, Py h d p ∧ p.showable = true ∧ p.hasDict = false ∧ p.depth ≤ 60 ∧ p.shown.length ≤ sizeLine ∧ Q (.str p.shown.cps.toList) h
  | _ => False
theorem tx_cps (x : Str) : tx x.cps.toList = x := by cases x; simp [tx]
theorem cd_repr {X : Cx} {T : Tb} (hg : X.A.guards = some []) (hu : X.A.units + 65 < cLine) : CD X T (.builtin "repr") bRepr := by
  intro pins s σ H vs us Q I rv hh
  obtain ⟨ds, h, Q', r, rh, q, k⟩ := hh
  match ds, q, r with
  | [d], ⟨p, py, h1, h2, h3, h4, q⟩, r =>
    obtain ⟨v, ev, r1⟩ := reps1 r
    subst ev
    obtain ⟨u, eu, ru⟩ := vals1 rv
    subst eu
    have fin : ∀ {s' : Shared} {t : Tok}, Inv X pins σ H s' → EP X pins σ Q (.str p.shown t) s' := fun {s' t} I' => by
      have z := k.here (v := .str (tx p.shown.cps.toList)) mk_str rh q
      rw [tx_cps] at z
      exact ⟨.str _, H, I', ⟨t, rfl⟩, z⟩
    have heap : ∀ {a : Addr} {as : List Addr}, Reads s.heap (.ref a) p as → wpAny (model X.prog X.w) X.A (call (.builtin "repr") [.ref a]) (EP X pins σ Q) X.xe s := fun {a as} rd =>
      repr_of_reads' rd h1 (PyData.noDict_hsm h2) hg (by omega) (fun _ _ e => e) (fun h' u tk hk => fin (I.kept hk)) h4
    obtain ⟨as, rd⟩ := Dp.reads I p v u (py.dp rh _ _ _ r1) ru
    cases py with
    | non => rw [rel_non r1] at ru; cases ru; exact PySem.P.repr_of_none (fin (I.tok _))
    | bl b => rw [rel_bl r1] at ru; cases ru; exact PySem.P.repr_of_bool (fin (I.tok _))
    | int i => rw [rel_int r1] at ru; obtain ⟨t, rfl⟩ := ru; exact PySem.P.repr_of_int (of_decide_eq_true h1) (fin (I.tok _))
    | str x => rw [rel_str r1] at ru; obtain ⟨t, rfl⟩ := ru; exact PySem.P.repr_of_str (fin (I.tok _)) h4
    | lst e q => rw [rel_ref r1] at ru; obtain rfl := (show u = Value.ref _ from ru); exact heap rd
    | tup q =>
      obtain ⟨a, xs, e, _⟩ := rel_tup r1
      subst e
      obtain rfl := (show u = Value.ref _ from ru)
      exact heap rd
/-! ### the law's call -/
/-- tracked ahead of the law: the tables, and the script where it is not the module's own -/
def hp0 (cs : List (Addr × Addr)) (sc : Option (Addr × Obj × List V)) : Hp := fun b => match sc with
  | some (a, o, xs) => if b = a then some (.frz o (.lst xs)) else if b ∈ cs.map (·.2) then some (.tbl #[]) else none
  | none => if b ∈ cs.map (·.2) then some (.tbl #[]) else none
theorem hp0_cases {cs : List (Addr × Addr)} {sc : Option (Addr × Obj × List V)} (b : Addr) : (hp0 cs sc b = none) ∨ (b ∈ cs.map (·.2) ∧ hp0 cs sc b = some (.tbl #[])) ∨ ∃ o xs, sc = some (b, o, xs) ∧ hp0 cs sc b = some (.frz o (.lst xs)) := by
  unfold hp0
  cases sc with
  | none =>
    by_cases h : b ∈ cs.map (·.2)
    · exact .inr (.inl ⟨h, if_pos h⟩)
    · exact .inl (if_neg h)
  | some z =>
    obtain ⟨a, o, xs⟩ := z
    by_cases e : b = a
    · subst e; exact .inr (.inr ⟨o, xs, rfl, if_pos rfl⟩)
    · by_cases h : b ∈ cs.map (·.2)
      · exact .inr (.inl ⟨h, (if_neg e).trans (if_pos h)⟩)
      · exact .inl ((if_neg e).trans (if_neg h))
section
variable {P : Program} {w : World} {K : PySem.W.Frag} {mg mb : Str → Option Value} {k : Nat} {fa a : Addr} {cs : List (Addr × Addr)} {fd : FuncData} {x : Str} {sp : Sp} {s₁ : Shared} {vs : List Value} {ns : List Int}
/-- where the tables are empty and the script is a list, the law's promise gives its answer -/
theorem law_G (KX : K.In s₁.heap) (hns : s₁.heap.Ns mainGlobals mg) (hb : s₁.heap.Ns builtinsNs mb) (hbb : ∀ x : Str, x ≠ "__name__" → mb x = bootBuiltins x) (hlim : s₁.heap.NoLimit) (hgen : s₁.gens = #[])
    (hT : ∀ p ∈ cs, s₁.heap.get? p.2 = some { cls := .none, data := .fields #[] }) (nT : ∀ p ∈ cs, K.lookup p.2 = none) (C : ∀ p ∈ cs, PySem.W.CodeHd s₁.heap p.1 p.2)
    (hbm : ∃ (bm : Addr) (ob : Obj), mg "__builtins__" = some (.ref bm) ∧ bm ≠ builtinsNs ∧ s₁.heap.get? bm = some ob ∧ ob.cls = .type "module" ∧ ob.dict = some builtinsNs ∧ ob.data = .plain)
    (ha : s₁.heap.get? a = some { cls := .type "list", data := .seq vs.toArray }) (hi : IntsAre vs ns) (hl : ns.length ≤ sizeLine) (hr : Room k callerA)
    (F : ∀ base : Heap, K.In base → base.Ns mainGlobals mg → (∀ p ∈ cs, LamX.TabB base mg p.1 p.2) → FnG P w K mg base (L2.CX P w) k fa fd [x] sp) (hbind : ∀ (s : Shared) (u : Value), BindsTo s fd ⟨[u], []⟩ [(x, u)])
    (hsp : ∀ H : Hp, (∀ p ∈ cs, H p.2 = some (.tbl #[])) → Rep K H (.scr ns) (.ref a) → sp [.ref a] H (fun v _ => v = .bl true) fun _ _ _ => False) :
    codeAny (model P w) callerA (.call (.ref fa) ⟨[.ref a], []⟩) (fun r s' => r = .ok (.ret (.bool true)) ∧ OldK s₁.heap s'.heap ∧ s'.os = s₁.os ∧ AllBare s'.gens) s₁ := by
  have rv := vals_ints hi
  have len := hi.length
  have tabObj : ∀ b ∈ cs.map (·.2), s₁.heap.get? b = some { cls := .none, data := .fields #[] } ∧ K.lookup b = none := fun b hb => by
    obtain ⟨p, hp, e⟩ := List.mem_map.mp hb
    subst e
    exact ⟨hT p hp, nT p hp⟩
  have aTab : a ∉ cs.map (·.2) := fun hm => by
    have e := (tabObj a hm).1
    rw [ha] at e
    cases e
  have main : ∀ sc : Option (Addr × Obj × List V), (∀ b o xs, sc = some (b, o, xs) → b = a ∧ o = { cls := .type "list", data := .seq vs.toArray } ∧ xs = ns.map V.int ∧ K.lookup a = none) → Rep K (hp0 cs sc) (.scr ns) (.ref a) →
      codeAny (model P w) callerA (.call (.ref fa) ⟨[.ref a], []⟩) (fun r s' => r = .ok (.ret (.bool true)) ∧ OldK s₁.heap s'.heap ∧ s'.os = s₁.os ∧ AllBare s'.gens) s₁ := by
    intro sc hsc rep
    generalize eH : hp0 cs sc = H at rep
    have kinds : ∀ b, H b = none ∨ (b ∈ cs.map (·.2) ∧ H b = some (.tbl #[])) ∨ (b = a ∧ H b = some (.frz { cls := .type "list", data := .seq vs.toArray } (.lst (ns.map V.int))) ∧ K.lookup a = none) := fun b => by
      rw [← eH]
      rcases hp0_cases (cs := cs) (sc := sc) b with e | e | ⟨o, xs, e1, e2⟩
      · exact .inl e
      · exact .inr (.inl e)
      · obtain ⟨q1, q2, q3, q4⟩ := hsc _ _ _ e1
        subst q2 q3
        exact .inr (.inr ⟨q1, e2, q4⟩)
    have tabH : ∀ p ∈ cs, H p.2 = some (.tbl #[]) := fun p hp => by
      have hm : p.2 ∈ cs.map (·.2) := List.mem_map.mpr ⟨p, hp, rfl⟩
      have ne : p.2 ≠ a := fun z => aTab (z ▸ hm)
      rw [← eH]
      unfold hp0
      cases sc with
      | none => exact if_pos hm
      | some z =>
        obtain ⟨b, o, xs⟩ := z
        obtain ⟨q1, _⟩ := hsc _ _ _ rfl
        subst q1
        exact (if_neg ne).trans (if_pos hm)
    have ok : HOk P w H s₁.heap := fun b u e => by
      rcases kinds b with z | ⟨hm, z⟩ | ⟨z1, z, _⟩
      · rw [z] at e; cases e
      · rw [z] at e; cases e; exact (tabObj b hm).1
      · rw [z] at e; cases e; subst z1; exact ⟨ha, by rw [List.length_map]; exact hl, vs, _, rv, ha⟩
    -- what is neither a list nor an empty table is hidden from none
    have seen : ∀ {b : Addr} {o : Obj}, s₁.heap.get? b = some o → (∀ us n, o.data ≠ .seq us n) → o.data ≠ .fields #[] → H b = none := fun {b o} e h1 h2 => by
      rcases kinds b with z | ⟨hm, _⟩ | ⟨z1, _, _⟩
      · exact z
      · rw [(tabObj b hm).1] at e; cases e; exact (h2 rfl).elim
      · subst z1; rw [ha] at e; cases e; exact (h1 _ _ rfl).elim
    have inBase : ∀ {b : Addr} {o : Obj}, s₁.heap.get? b = some o → H b = none → (hidT s₁.heap H).get? b = some o := fun e n => hidT_get e n
    have ns_ : ∀ {b : Addr} {m : Str → Option Value}, s₁.heap.Ns b m → (hidT s₁.heap H).Ns b m := fun {b m} ⟨o, es, ep, e, d, r⟩ => ⟨o, es, ep, inBase e (seen e (fun us n z => by rw [d] at z; cases z) fun z => by rw [d] at z; cases z), d, r⟩
    have kin : K.In (hidT s₁.heap H) := fun b o e => inBase (KX b o e) (by
      rcases kinds b with z | ⟨hm, _⟩ | ⟨z1, _, z3⟩
      · exact z
      · rw [(tabObj b hm).2] at e; cases e
      · subst z1; rw [z3] at e; cases e)
    have mod : L2.Mod K mg (hidT s₁.heap H) := ⟨kin, ns_ hns, ⟨mb, ns_ hb, hbb⟩, let ⟨m, h1, h2⟩ := hlim; ⟨m, ns_ h1, h2⟩⟩
    have tabs : ∀ p ∈ cs, LamX.TabB (hidT s₁.heap H) mg p.1 p.2 := fun p hp => by
      refine ⟨?_, ?_, fun z => ?_⟩
      · obtain ⟨o, us, f1, f2, f3, f4, f5, f6, f7, e1, r1, r2, r3, r⟩ := C p hp
        refine ⟨o, us, f1, f2, f3, f4, f5, f6, f7, inBase e1 (seen e1 (fun us n z => ?_) fun z => ?_), r1, r2, r3, r⟩
        · rw [r2] at z; cases z
        · rw [r2] at z; cases z; simp at r3
      · obtain ⟨bm, ob, b1, b2, b3, b4, b5, b6⟩ := hbm
        refine ⟨bm, ob, b1, b2, fun q => ?_, fun q => ?_, inBase b3 (seen b3 (fun us n z => ?_) fun z => ?_), b4, b5, b6⟩
        · obtain ⟨o, es, ep, e, hd, _⟩ := hns
          rw [q, e] at b3
          cases b3
          rw [hd] at b6
          cases b6
        · rw [q, hT p hp] at b3
          cases b3
          cases b6
        · rw [b6] at z; cases z
        · rw [b6] at z; cases z
      · obtain ⟨o, es, ep, e, hd, _⟩ := hns
        rw [z, hT p hp] at e
        cases e
        cases hd
    have e0 : Env0 P w K mg (hidT s₁.heap H) callerA [] s₁ H := ⟨rfl, mod, fun b o e => of_hidT e, Nat.le_of_eq (hidT_size _ _), trivial, fun b hb => absurd (show b ∈ ([] : List Addr) from hb) (by simp), ok, .of_eq hgen⟩
    have call := (F _ kin (ns_ hns) tabs).run callerA [] s₁ H ⟨[.ref a], []⟩ [.ref a] [.ref a] _ _ hr rfl e0 (hbind s₁ (.ref a)) (.cons rfl .nil) (hsp H tabH rep)
    refine codeAny_mono call fun r s' h => ?_
    cases r with
    | error e =>
      obtain ⟨_, _, _, _, _, _, _, _, _, _, _, _, z⟩ := h
      exact z.elim
    | ok fl =>
      cases fl with
      | ret u =>
        obtain ⟨v, H', os, bare, un, ok', r', q⟩ := h
        have q : v = .bl true := q
        subst q
        obtain rfl : u = Value.bool true := r'
        have old : ∀ b o, b ∉ cs.map (·.2) → s₁.heap.get? b = some o → s'.heap.get? b = some o := fun b o nb e => by
          rcases kinds b with z | ⟨hm, _⟩ | ⟨_, z, _⟩
          · exact un.keep b o e z (by simp [frs]) (by simp)
          · exact absurd hm nb
          · have z2 := un.frzs b _ _ z
            have e1 := (ok b _ z).1
            rw [e] at e1
            cases e1
            exact (ok' b _ z2).1
        have more : ∀ p ∈ cs, ∃ us : Array Value, s'.heap.get? p.2 = some { cls := .none, data := .fields us } := fun p hp => by
          obtain ⟨us, z⟩ := un.tbls p.2 #[] (tabH p hp)
          exact ⟨_, ok' p.2 _ z⟩
        refine ⟨rfl, ⟨fun b o e => ?_, fun b o e => ?_⟩, os, bare⟩
        · by_cases hm : b ∈ cs.map (·.2)
          · obtain ⟨p, hp, ep⟩ := List.mem_map.mp hm
            subst ep
            obtain ⟨us, hus⟩ := more p hp
            rw [hT p hp] at e
            cases e
            exact .inr (.inl ⟨((C p hp).tab (hT p hp)).isCodeTable, rfl, #[], us, rfl, by rw [Array.empty_append]; exact hus⟩)
          · exact .inl (old b o hm e)
        · by_cases hm : b ∈ cs.map (·.2)
          · obtain ⟨p, hp, ep⟩ := List.mem_map.mp hm
            subst ep
            obtain ⟨us, hus⟩ := more p hp
            exact ⟨_, hus⟩
          · exact ⟨o, old b o hm e⟩
      | _ => exact False.elim h
  cases hk : K.lookup a with
  | some o =>
    have e := KX a o hk
    rw [ha] at e
    cases e
    refine main none (fun b o xs z => by cases z) ?_
    simp only [Rep]
    exact ⟨a, rfl, .inr ⟨_, vs.toArray, _, hk, rfl, rfl, rfl, by rw [List.size_toArray, len]; exact hl, by simpa using rv⟩⟩
  | none =>
    refine main (some (a, { cls := .type "list", data := .seq vs.toArray }, ns.map V.int)) (fun b o xs z => by cases z; exact ⟨rfl, rfl, rfl, hk⟩) ?_
    simp only [Rep]
    exact ⟨a, rfl, .inl ⟨{ cls := .type "list", data := .seq vs.toArray }, if_pos rfl⟩⟩
end
/-- a def's lambdas' qualified name -/
abbrev lamQ (x : Str) : Str := (x ++ ".<locals>.") ++ "<lambda>"
/-- what the head tells of the law -/
def LawG (l : PySem.W.OpenLaw) (w : World) (K : PySem.W.Frag) (k n : Nat) (x : Str) (mg : Str → Option Value) (fa : Addr) (h : Heap) : Prop :=
  ∃ (fd : FuncData) (cs : List (Addr × Addr)) (sp : Sp), (∀ p ∈ cs, h.get? p.2 = some { cls := .none, data := .fields #[] }) ∧ (∀ p ∈ cs, K.lookup p.2 = none) ∧ (∀ p ∈ cs, PySem.W.CodeHd h p.1 p.2) ∧ (∀ (s : Shared) (u : Value), BindsTo s fd ⟨[u], []⟩ [(x, u)]) ∧
    (∀ (H : Hp) (a : Addr) (ns : List Int), ns.length ≤ n → (∀ z ∈ ns, Builtin.Int.intBits z ≤ 1048576) → (∀ p ∈ cs, H p.2 = some (.tbl #[])) → Rep K H (.scr ns) (.ref a) → sp [.ref a] H (fun v _ => v = .bl true) fun _ _ _ => False) ∧
    ∀ base : Heap, K.In base → base.Ns mainGlobals mg → (∀ p ∈ cs, LamX.TabB base mg p.1 p.2) → FnG l.prog w K mg base (L2.CX l.prog w) k fa fd [x] sp
theorem walk_G {l : PySem.W.OpenLaw} {n k : Nat} {q : Program} {loose : List Str} {XP : (Str → Option Value) → Heap → Prop} {YP : World → Heap → Prop} {d : DefRec} {x : Str} (hn : l.most = some n) (hn2 : n ≤ sizeLine) (hdf : d.params.defaults = []) (hr : Room k callerA)
    (F : ∀ (w : World) (mg : Str → Option Value) (fa : Addr) (h : Heap), YP w h → h.Ns mainGlobals mg → mg d.name = some (.ref fa) → ∃ K : PySem.W.Frag, K.In h ∧ LawG l w K k n x mg fa h) : PySem.W.WalkO q loose XP YP l.row.toRowW d [] (fun f vs => PySem.call f vs) := by
  refine Att.attach_callB hn hdf fun w s₀ s₁ mg mb fa o pm cd doc a vs ns G Y ho hd hcd hmg hobj hints hlen hbits hg => ?_
  obtain ⟨K, KX, fd, cs, sp, hT, nT, C, hb, hsp, hF⟩ := F w mg fa _ Y G.T.g hmg
  exact law_G KX G.T.g G.T.b G.T.builtins G.T.nolimit hg hT nT C G.T.bmain hobj hints (Nat.le_trans hlen hn2) hr hF hb fun H hH rep => hsp H a ns hlen hbits hH rep
end Tw
/-! The meanings, unfolded where the values' kinds are known. -/
namespace Tw
open PySem PySem.Spec PyProof.Rows L2
/-- of a list that stands there -/
def onL (o : Option DO) (k : List D → Prop) : Prop := match o with
  | some (.lst xs) => k xs
  | _ => False
theorem onL_lst {xs : List D} {k : List D → Prop} : onL (some (.lst xs)) k = k xs := rfl
theorem exL {o : Option DO} {k : List D → Prop} : (∃ xs, o = some (.lst xs) ∧ k xs) = onL o k := by
  apply propext
  constructor
  · rintro ⟨xs, e, q⟩; subst e; exact q
  · intro q
    cases o with
    | none => exact q.elim
    | some o => cases o with
      | lst xs => exact ⟨xs, rfl, q⟩
      | _ => exact q.elim
section
variable {h : DHp} {Q : DK} {E : DX} {a b : Addr} {i j : Int} {x y z : List Nat} {xs ys : List D} {d e : D} {p q : Bool} {k : Bool → Prop} {neg : Bool} {t : Ty5}
theorem onB_ : onB (.bl p) k = k p := rfl
-- isA
theorem isA_non : isA t .non h = some false := rfl
theorem isA_int_int : isA .int (.int i) h = some true := rfl
theorem isA_bool_int : isA .bool (.int i) h = some false := rfl
theorem isA_str_int : isA .str (.int i) h = some false := rfl
theorem isA_tup_int : isA .tup (.int i) h = some false := rfl
theorem isA_lst_int : isA .lst (.int i) h = some false := rfl
theorem isA_int_str : isA .int (.str x) h = some false := rfl
theorem isA_bool_str : isA .bool (.str x) h = some false := rfl
theorem isA_str_str : isA .str (.str x) h = some true := rfl
theorem isA_tup_str : isA .tup (.str x) h = some false := rfl
theorem isA_lst_str : isA .lst (.str x) h = some false := rfl
theorem isA_int_tup : isA .int (.tup xs) h = some false := rfl
theorem isA_bool_tup : isA .bool (.tup xs) h = some false := rfl
theorem isA_str_tup : isA .str (.tup xs) h = some false := rfl
theorem isA_tup_tup : isA .tup (.tup xs) h = some true := rfl
theorem isA_lst_tup : isA .lst (.tup xs) h = some false := rfl
theorem isA_int_bl : isA .int (.bl p) h = some true := rfl
theorem isA_bool_bl : isA .bool (.bl p) h = some true := rfl
theorem isA_str_bl : isA .str (.bl p) h = some false := rfl
theorem isA_tup_bl : isA .tup (.bl p) h = some false := rfl
theorem isA_lst_bl : isA .lst (.bl p) h = some false := rfl
-- operations
theorem dAdd_int : dAdd (.int i) (.int j) h Q = Q (.int (i + j)) h := rfl
theorem dAdd_str : dAdd (.str x) (.str y) h Q = (x.length + y.length ≤ sizeLine ∧ Q (.str (x ++ y)) h) := rfl
theorem dAdd_tup : dAdd (.tup xs) (.tup ys) h Q = (xs.length + ys.length ≤ sizeLine ∧ Q (.tup (xs ++ ys)) h) := rfl
theorem dAdd_ref : dAdd (.ref a) (.ref b) h Q = onL (h a) fun xs => onL (h b) fun ys => xs.length + ys.length ≤ sizeLine ∧ ∀ p, h p = none → Q (.ref p) (put h p (.lst (xs ++ ys))) := by
  rw [← exL]
  apply propext
  constructor
  · rintro ⟨xs, ys, e1, e2, q⟩; exact ⟨xs, e1, by rw [← exL]; exact ⟨ys, e2, q⟩⟩
  · rintro ⟨xs, e1, q⟩
    rw [← exL] at q
    obtain ⟨ys, e2, q⟩ := q
    exact ⟨xs, ys, e1, e2, q⟩
theorem dSub_int : dSub (.int i) (.int j) h Q = Q (.int (i - j)) h := rfl
theorem dLt_int : dLt (.int i) (.int j) h Q = Q (.bl (decide (i < j))) h := rfl
theorem dLe_int : dLe (.int i) (.int j) h Q = Q (.bl (decide (i ≤ j))) h := rfl
theorem dGt_int : dGt (.int i) (.int j) h Q = Q (.bl (decide (j < i))) h := rfl
theorem dGe_int : dGe (.int i) (.int j) h Q = Q (.bl (decide (j ≤ i))) h := rfl
theorem dMul_int : dMul (.int i) (.int j) h Q = (((-(2 ^ 64) < i ∧ i < 2 ^ 64) ∨ (-(2 ^ 64) < j ∧ j < 2 ^ 64)) ∧ Q (.int (i * j)) h) := rfl
theorem dMul_str : dMul (.str z) (.int j) h Q = ((j < 2 ^ 62 ∧ -(2 ^ 62) < j ∧ z.length * j.toNat ≤ sizeLine) ∧ Q (.str (repD j.toNat z)) h) := rfl
theorem dMul_ref : dMul (.ref a) (.int j) h Q = onL (h a) fun xs => (-(2 ^ 63) ≤ j ∧ j < 2 ^ 63 ∧ xs.length * j.toNat ≤ sizeLine) ∧ ∀ p, h p = none → Q (.ref p) (put h p (.lst (repD j.toNat xs))) := by rw [← exL]; rfl
theorem dMod_int : dMod (.int i) (.int j) h Q = (0 < j ∧ Q (.int (i % j)) h) := rfl
theorem dFdiv_int : dFdiv (.int i) (.int j) h Q = ((0 < j ∧ j < 1073741824) ∧ Q (.int (i / j)) h) := rfl
theorem dPow_int : dPow (.int i) (.int j) h Q = ((0 ≤ j ∧ j ≤ 1000000 ∧ i.natAbs < 2 ^ 64) ∧ Q (.int (i ^ j.toNat)) h) := rfl
theorem dIsN_ : dIsN d .non h Q = Q (.bl (isNon d)) h := by simp [dIsN]
theorem dNotN_ : dNotN d .non h Q = Q (.bl (!isNon d)) h := by simp [dNotN]
theorem isNon_int : isNon (.int i) = false := rfl
theorem isNon_non : isNon .non = true := rfl
theorem dEq_str : dEq (.str x) (.str y) h Q = Q (.bl (x == y)) h := rfl
theorem dEq_int : dEq (.int i) (.int j) h Q = Q (.bl (i == j)) h := rfl
theorem dNe_str : dNe (.str x) (.str y) h Q = Q (.bl (!(x == y))) h := rfl
theorem dNe_int : dNe (.int i) (.int j) h Q = Q (.bl (!(i == j))) h := rfl
theorem dIn_sign {c : Nat} : dIn neg (.str [c]) (.str y) h Q = Q (.bl (xor neg (decide (c ∈ y)))) h := rfl
-- subscripts
theorem dIx_str : dIx (.str x) (.int i) h Q = (x.length ≤ sizeLine ∧ ∃ c, atI x i = some c ∧ Q (.str [c]) h) := rfl
theorem dIx_tup : dIx (.tup xs) (.int i) h Q = ∃ d, atI xs i = some d ∧ Q d h := rfl
theorem dIx_scr {ns : List Int} : dIx (.scr ns) (.int i) h Q = ∃ n, atI ns i = some n ∧ Q (.int n) h := rfl
theorem dIx_ref : dIx (.ref a) (.int i) h Q = onL (h a) fun xs => ∃ d, atI xs i = some d ∧ Q d h := by
  rw [← exL]
  apply propext
  constructor
  · rintro ⟨xs, d, e1, e2, q⟩; exact ⟨xs, e1, d, e2, q⟩
  · rintro ⟨xs, e1, d, e2, q⟩; exact ⟨xs, d, e1, e2, q⟩
theorem dCut_str {lo hi : Option Int} : dCut (.str x) lo hi h Q = (x.length ≤ sizeLine ∧ Q (.str (cutD x lo hi)) h) := rfl
theorem dCut_tup {lo hi : Option Int} : dCut (.tup xs) lo hi h Q = Q (.tup (cutD xs lo hi)) h := rfl
theorem dCut_scr {ns : List Int} {lo hi : Option Int} : dCut (.scr ns) lo hi h Q = ∀ p, h p = none → Q (.ref p) (put h p (.lst ((cutD ns lo hi).map D.int))) := rfl
theorem dCut_ref {lo hi : Option Int} : dCut (.ref a) lo hi h Q = onL (h a) fun xs => ∀ p, h p = none → Q (.ref p) (put h p (.lst (cutD xs lo hi))) := by rw [← exL]; rfl
-- built-ins
theorem bLen_str : bLen [.str x] h Q = (x.length ≤ sizeLine ∧ Q (.int x.length) h) := rfl
theorem bLen_tup : bLen [.tup xs] h Q = Q (.int xs.length) h := by simp [bLen, itemsD]
theorem bLen_ref : bLen [.ref a] h Q = onL (h a) fun xs => Q (.int xs.length) h := by
  cases eo : h a with
  | none => simp [bLen, itemsD, onL, eo]
  | some o => cases o <;> simp [bLen, itemsD, onL, eo]
theorem bInt_int : bInt [.int i] h Q = Q (.int i) h := rfl
theorem bInt_bl : bInt [.bl p] h Q = Q (.int (if p then 1 else 0)) h := rfl
theorem bTup_tup : bTup [.tup xs] h Q = Q (.tup xs) h := by simp [bTup, itemsD]
theorem bTup_ref : bTup [.ref a] h Q = onL (h a) fun xs => Q (.tup xs) h := by
  cases eo : h a with
  | none => simp [bTup, itemsD, onL, eo]
  | some o => cases o <;> simp [bTup, itemsD, onL, eo]
theorem bList_str : bList [.str x] h Q = (x.length ≤ sizeLine ∧ ∀ p, h p = none → Q (.ref p) (put h p (.lst (x.map fun c => .str [c])))) := rfl
theorem bList_tup : bList [.tup xs] h Q = ∀ p, h p = none → Q (.ref p) (put h p (.lst xs)) := by simp [bList, itemsD]
theorem bList_ref : bList [.ref a] h Q = onL (h a) fun xs => ∀ p, h p = none → Q (.ref p) (put h p (.lst xs)) := by
  cases eo : h a with
  | none => simp [bList, itemsD, onL, eo]
  | some o => cases o <;> simp [bList, itemsD, onL, eo]
-- methods
theorem tyD_str {ty : String} : tyD ty (.str x) h = (ty = "str") := rfl
theorem mAppend_ref : mAppend (.ref a) [d] h Q = onL (h a) fun xs => xs.length < sizeLine ∧ Q .non (put h a (.lst (xs ++ [d]))) := by rw [← exL]; rfl
theorem mExtend_ref : mExtend (.ref a) [.ref b] h Q = onL (h a) fun xs => onL (h b) fun ys => xs.length + ys.length ≤ sizeLine ∧ Q .non (put h a (.lst (xs ++ ys))) := by
  rw [← exL]
  apply propext
  constructor
  · rintro ⟨xs, ys, e1, e2, q⟩; exact ⟨xs, e1, by rw [← exL]; exact ⟨ys, e2, q⟩⟩
  · rintro ⟨xs, e1, q⟩
    rw [← exL] at q
    obtain ⟨ys, e2, q⟩ := q
    exact ⟨xs, ys, e1, e2, q⟩
theorem tyL : tyD "list" (.ref a) h = onL (h a) fun _ => True := by
  cases eo : h a with
  | none => simp [tyD, onL, eo]
  | some o => cases o <;> simp [tyD, onL, eo]
theorem dSetL_ref {K : DHp → Prop} : dSetL (.ref a) (.int i) d h K = onL (h a) fun xs => ∃ j, ixN xs.length i = some j ∧ K (put h a (.lst (xs.set j d))) := by
  rw [← exL]
  apply propext
  constructor
  · rintro ⟨xs, j, e1, e2, q⟩; exact ⟨xs, e1, j, e2, q⟩
  · rintro ⟨xs, e1, j, e2, q⟩; exact ⟨xs, j, e1, e2, q⟩
theorem mJoin_ref : mJoin (.str x) [.ref a] h Q = onL (h a) fun xs => ∃ ys : List (List Nat), xs = ys.map D.str ∧ (ys.map List.length).sum + ys.length * x.length ≤ 16777216 ∧ Q (.str (joinD x ys)) h := by
  rw [← exL]
  unfold mJoin itemsD
  apply propext
  constructor
  · rintro ⟨ys, e, q⟩
    cases eo : h a with
    | none => simp [eo] at e
    | some o => cases o with
      | lst xs => simp only [eo, Option.some.injEq] at e; exact ⟨xs, rfl, ys, e, q⟩
      | _ => simp [eo] at e
  · rintro ⟨xs, e1, ys, e2, q⟩
    exact ⟨ys, by simp [e1, e2], q⟩
theorem bInts_ref {g : List Int → Int} {okI : List Int → Prop} : bInts g okI [.ref a] h Q = onL (h a) fun xs => ∃ ns : List Int, xs = ns.map D.int ∧ okI ns ∧ Q (.int (g ns)) h := by
  rw [← exL]
  unfold bInts listD
  apply propext
  constructor
  · rintro ⟨ns, e, q⟩
    cases eo : h a with
    | none => simp [eo] at e
    | some o => cases o with
      | lst xs => simp only [eo, Option.some.injEq] at e; exact ⟨xs, rfl, ns, e, q⟩
      | _ => simp [eo] at e
  · rintro ⟨xs, e1, ns, e2, q⟩
    exact ⟨ns, by simp [e1, e2], q⟩
theorem bMin_ref : bMin [.ref a] h Q = onL (h a) fun xs => ∃ ns : List Int, xs = ns.map D.int ∧ 0 < ns.length ∧ Q (.int (minI ns)) h := bInts_ref
theorem bMax_ref : bMax [.ref a] h Q = onL (h a) fun xs => ∃ ns : List Int, xs = ns.map D.int ∧ 0 < ns.length ∧ Q (.int (maxI ns)) h := bInts_ref
-- subscripts of small places
theorem ixN_lt {n : Nat} {k : Nat} (hk : k < n) : ixN n (k : Int) = some k := by
  unfold ixN
  rw [if_pos (by omega), if_pos (by omega)]
  simp
theorem atI_lt {α : Type} {l : List α} {k : Nat} {v : α} (e : l[k]? = some v) : atI l (k : Int) = some v := L2.atI_nat e
theorem atI_0 {α : Type} {v : α} {l : List α} : atI (v :: l) 0 = some v := atI_lt (k := 0) rfl
theorem atI_1 {α : Type} {u v : α} {l : List α} : atI (u :: v :: l) 1 = some v := atI_lt (k := 1) rfl
theorem atI_2 {α : Type} {u v w : α} {l : List α} : atI (u :: v :: w :: l) 2 = some w := atI_lt (k := 2) rfl
/-! what a def leaves behind -/
theorem less_none {g h : DHp} {u : Addr} (l : Less g h) (n : h u = none) : g u = none := by
  cases e : g u with
  | none => rfl
  | some o => rw [l u o e] at n; cases n
theorem less_upd {g h : DHp} {u : Addr} {o : DO} (l : Less g h) (n : g u = none) : Less g (put h u o) := fun a x e => by
  by_cases z : a = u
  · subst z; rw [n] at e; cases e
  · rw [put_ne z]; exact l a x e
theorem less_new {g h : DHp} {u : Addr} {o : DO} (l : Less g h) (n : h u = none) : Less g (put h u o) := less_upd l (less_none l n)
theorem less_both {g h : DHp} {u : Addr} {o : DO} (l : Less g h) : Less (put g u o) (put h u o) := fun a x e => by
  by_cases z : a = u
  · subst z; rw [put_same] at e ⊢; exact e
  · rw [put_ne z] at e ⊢; exact l a x e
theorem fgt_here {Q : DK} {v : D} {h : DHp} (q : Q v h) : Fgt Q v h := ⟨h, Less.refl, q⟩
theorem fgt_less {Q : DK} {v : D} {g h : DHp} (l : Less g h) (q : Q v g) : Fgt Q v h := ⟨g, l, q⟩
/-- a new object is handed back, behind what is forgotten -/
theorem fgt_new {Q : DK} {g h : DHp} {u : Addr} {o : DO} (l : Less g h) (n : h u = none) (q : ∀ r, g r = none → Q (.ref r) (put g r o)) : Fgt Q (.ref u) (put h u o) := ⟨put g u o, less_both l, q u (less_none l n)⟩
theorem rngD_mem {lo : Int} {n : Nat} {d : D} (h : d ∈ rngD lo n) : ∃ i : Nat, i < n ∧ d = .int (lo + i) := by
  unfold rngD at h
  obtain ⟨i, hi, e⟩ := List.mem_map.mp h
  exact ⟨i, by simpa using hi, e.symm⟩
theorem rngD_get {lo : Int} {n i : Nat} {d : D} (h : (rngD lo n)[i]? = some d) : i < n ∧ d = .int (lo + i) := by
  unfold rngD at h
  rw [List.getElem?_map] at h
  cases e : (List.range n)[i]? with
  | none => rw [e] at h; cases h
  | some j =>
    rw [e] at h
    obtain ⟨h1, h2⟩ := List.getElem?_eq_some_iff.mp e
    have hj : j = i := by simpa using h2.symm
    subst hj
    cases h
    exact ⟨by simpa using h1, rfl⟩
theorem rngD_len {lo : Int} {n : Nat} : (rngD lo n).length = n := by simp [rngD]
end
end Tw
/-! Defs of the program as values; calls of a name that holds one. -/
namespace Tw
open PySem PySem.Spec PyProof.Rows L2
/-- a def of the program at its own place, which keeps its promise -/
def HasV (P : Program) (w : World) (K : PySem.W.Frag) (mg : Str → Option Value) (base : Heap) (T : Tb) (k : Nat) (x : Str) (ps : List Str) (sp : SpD) : Prop :=
  ∃ fd, FnOk P w K mg base (L2.CX P w) k (He.fAd K (x, none)) fd ps (lift ⟨K, w, T⟩ ps.length sp) ∧ PySem.W.keepIn K (.ref (He.fAd K (x, none))) = true ∧ Binds K fd ps []
def HasVs (P : Program) (w : World) (K : PySem.W.Frag) (mg : Str → Option Value) (base : Heap) (T : Tb) (j : Nat) : List (Str × Nat × SpD) → Prop
  | [] => True
  | f :: fs => (∃ k ps, k ≤ j ∧ ps.length = f.2.1 ∧ HasV P w K mg base T k f.1 ps f.2.2) ∧ HasVs P w K mg base T j fs
/-- the one of that name -/
def pickF (x : Str) : List (Str × Nat × SpD) → Option (Nat × SpD)
  | [] => none
  | f :: fs => if f.1 = x then some f.2 else pickF x fs
theorem pick_has {P : Program} {w : World} {K : PySem.W.Frag} {mg : Str → Option Value} {base : Heap} {T : Tb} {j : Nat} {x : Str} {n : Nat} {sp : SpD} : ∀ {fs : List (Str × Nat × SpD)}, HasVs P w K mg base T j fs → pickF x fs = some (n, sp) → ∃ k ps, k ≤ j ∧ ps.length = n ∧ HasV P w K mg base T k x ps sp
  | [], _, e => by simp [pickF] at e
  | f :: fs, h, e => by
    unfold pickF at e
    split at e
    · rename_i q
      subst q
      obtain ⟨g, n', sp'⟩ := f
      simp only [Option.some.injEq, Prod.mk.injEq] at e
      obtain ⟨rfl, rfl⟩ := e
      exact h.1
    · exact pick_has h.2 e
def dCallV (i : Nat) (fs : List (Str × Nat × SpD)) (ms : MA) : ME := fun δ h Q E => match δ[i]? with
  | some (some (.fn x)) => (match pickF x fs with
    | some f => ms δ h (fun ds h1 => ds.length = f.1 ∧ f.2 ds h1 Q E) E
    | none => False)
  | _ => False
section
variable {X : Cx} {T : Tb} {W : WX} {j i : Nat} {x : Str} {p pos : Pos} {e : Expr} {es : List Expr} {ms : MA} {fs : List (Str × Nat × SpD)}
theorem de_fnV (hg : Gl X x) (hm : X.mg x = some (.ref (He.fAd X.K (x, none)))) (hd : (x == ("__debug__" : Str)) = false := by decide) : DE X T W (.Name x pos) (dC (.fn x)) :=
  de_glob (v := .ref (He.fAd X.K (x, none))) hg hm rfl (fun _ => by simp only [Rep]) hd
theorem de_callV (A : HasVs X.prog X.w X.K X.mg X.base T j fs) (hr : Room j X.A) (hN : X.N[i]? = some x) (hv : Vis X.env.scope x) (tk : Takes X W) (ha : DA X T W (e :: es) ms)
    (hdb : (x == ("__debug__" : Str)) = false := by decide) (hcd : (x == ("__classdict__" : Str)) = false := by decide)
    (he : starEach (e :: es) X.env = (false, eval e X.env) :: starEach es X.env := by rfl) (hpl : (backTo pos (starEach es X.env)).any (·.1) = false := by rfl) :
    DE X T W (.Call (.Name x p) (e :: es) [] pos) (dCallV i fs ms) := by
  refine ⟨fun pins s σ H Q I h => ?_⟩
  obtain ⟨δ, h, Q', E', rs, rh, q, kk, kx⟩ := h
  have z : ∃ y n sp, δ[i]? = some (some (.fn y)) ∧ pickF y fs = some (n, sp) ∧ ms δ h (fun ds h1 => ds.length = n ∧ sp ds h1 Q' E') E' := by
    unfold dCallV at q
    split at q
    · rename_i y e1
      split at q
      · rename_i f e2
        exact ⟨y, f.1, f.2, e1, e2, q⟩
      · exact q.elim
    · exact q.elim
  obtain ⟨y, n, sp, e1, e2, q⟩ := z
  obtain ⟨v, e3, r⟩ := rs.2 i _ e1
  simp only [Rep] at r
  subst r
  obtain ⟨k, ps, hk, hn, fd, F, hkp, hb⟩ := pick_has A e2
  subst hn
  refine wpAny_Call_Name_kw (thn ((pe_var (pos := p) hN hv hdb hcd).run pins s σ H (fun v H1 => v = .ref (He.fAd X.K (y, none)) ∧ H1 = H) I ⟨_, e3, rfl, rfl⟩) fun u s1 ⟨v, H1, I1, r1, q1⟩ => ?_)
  obtain ⟨rfl, rfl⟩ := q1
  cases r1
  refine PySem.W.callWith_K (h₀ := X.base) I.ok.mod.kin hkp (thn (ha.run pos pins s1 σ _ (fun vs H2 => lift ⟨X.K, X.w, T⟩ ps.length sp vs H2 Q (WE W σ)) I1 ⟨δ, h, _, E', rs, rh, q, fun vs ds H1 h1 x1 r1 rh1 q1 => ?_, kx⟩) fun us s2 ⟨vs, H2, I2, r, q⟩ => ⟨I2.kIn, ?_⟩) he hpl
  · exact ⟨ds, h1, Q', E', q1.1, r1, rh1, q1.2, kk.after x1, fun C H' h' x' rh' q' => kx C H' h' (x1.trans x') rh' q'⟩
  · exact run_fnSD F (hr.mono hk) hb .nil (passAt tk σ) I2 r (by rw [List.append_nil]; exact q)
end
end Tw
/-! More methods of texts; slices turned about. -/
namespace Tw
open PySem PySem.Spec PyProof.Rows L2
theorem sub_tx (a b : List Nat) (i : Nat) : Builtin.Str.subAt (tx a) (tx b) i = ((a.drop i).take b.length == b) := by
  unfold Builtin.Str.subAt
  rw [Bool.eq_iff_iff, beq_iff_eq, beq_iff_eq, tx_len]
  show (a.toArray.extract i (i + b.length)) = b.toArray ↔ _
  rw [List.extract_toArray, ← Array.toList_inj]
  simp [List.extract_eq_drop_take, List.take_drop]
theorem starts_tx (a b : List Nat) : Txt.startswith (tx a) (tx b) = b.isPrefixOf a := by
  unfold Txt.startswith
  rw [sub_tx, tx_len, tx_len, Bool.eq_iff_iff, Bool.and_eq_true, decide_eq_true_eq, beq_iff_eq, List.isPrefixOf_iff_prefix, List.prefix_iff_eq_take]
  simp only [List.drop_zero, Nat.zero_add]
  constructor
  · exact fun h => h.2.symm
  · intro h
    refine ⟨?_, h.symm⟩
    have := congrArg List.length h
    rw [List.length_take] at this
    omega
def mStarts : RM := fun d ds h Q => match d, ds with
  | .str a, [.str b] => Q (.bl (b.isPrefixOf a)) h
  | _, _ => False
theorem mStarts_str {a b : List Nat} {h : DHp} {Q : DK} : mStarts (.str a) [.str b] h Q = Q (.bl (b.isPrefixOf a)) h := rfl
section
variable {X : Cx} {T : Tb}
theorem md_startswith : MD X T "str.startswith" mStarts := by
  intro pins s σ H x vs v us Q I rx rv hh
  obtain ⟨d, ds, h, Q', rd, r, rh, q, k⟩ := hh
  match d, ds, q, rd, r with
  | .str a, [.str b], q, rd, r =>
    obtain ⟨w, ew, r1⟩ := reps1 r
    subst ew
    exact mt_startswith pins s σ H x _ v us Q I rx rv ⟨tx a, tx b, rel_str rd, by rw [rel_str r1], by rw [starts_tx]; exact k.here mk_bl rh q⟩
end
end Tw
/-! Texts in their order, each once. -/
namespace Tw
open PySem PySem.Spec PyProof.Rows L2
/-- (len(x), x), as data -/
def keyW (x : List Nat) : PyData := .tuple [.int x.length, .str (tx x)]
def leW (x y : List Nat) : Bool := PySem.W.dataLe false keyW x y
theorem toksW (x : List Nat) : PySem.W.keyToks (keyW x) = [.inl 1, .inl (x.length : Int), .inl 1, .inr x, .inl 0] := by
  simp [keyW, PySem.W.keyToks, PySem.W.keyToksAll, tx]
theorem leW_trans (x y z : List Nat) (h1 : leW x y = true) (h2 : leW y z = true) : leW x z = true := (PySem.W.sortLe_total (PyProof.Rows.listOrd PyProof.Rows.itemOrd) false fun b => PySem.W.keyToks (keyW b)).trans x y z h1 h2
theorem leW_total (x y : List Nat) : (leW x y || leW y x) = true := by
  have := (PySem.W.sortLe_total (PyProof.Rows.listOrd PyProof.Rows.itemOrd) false fun b => PySem.W.keyToks (keyW b)).total x y
  rw [Bool.or_eq_true]
  exact this
theorem leW_anti (x y : List Nat) (h1 : leW x y = true) (h2 : leW y x = true) : x = y := by
  have a1 : PyProof.Rows.lexLt PyProof.Rows.itemOrd (PySem.W.keyToks (keyW y)) (PySem.W.keyToks (keyW x)) = false := by
    have : (!PyProof.Rows.lexLt PyProof.Rows.itemOrd (PySem.W.keyToks (keyW y)) (PySem.W.keyToks (keyW x))) = true := h1
    simpa using this
  have a2 : PyProof.Rows.lexLt PyProof.Rows.itemOrd (PySem.W.keyToks (keyW x)) (PySem.W.keyToks (keyW y)) = false := by
    have : (!PyProof.Rows.lexLt PyProof.Rows.itemOrd (PySem.W.keyToks (keyW x)) (PySem.W.keyToks (keyW y))) = true := h2
    simpa using this
  have := (PyProof.Rows.listOrd PyProof.Rows.itemOrd).total (PySem.W.keyToks (keyW x)) (PySem.W.keyToks (keyW y)) a2 a1
  rw [toksW, toksW] at this
  simp at this
  exact this.2
/-- the first of each -/
def nub (ws : List (List Nat)) : List (List Nat) := ws.foldl (fun a x => if x ∈ a then a else a ++ [x]) []
/-- adjacent equal ones once -/
def adj (ws : List (List Nat)) : List (List Nat) := ws.foldl (fun a x => if a.getLast? = some x then a else a ++ [x]) []
def inOrder (ws : List (List Nat)) : List (List Nat) := (nub ws).mergeSort leW
theorem nub_inv (ws : List (List Nat)) : ∀ acc : List (List Nat), acc.Nodup → (ws.foldl (fun a x => if x ∈ a then a else a ++ [x]) acc).Nodup ∧ ∀ z, z ∈ ws.foldl (fun a x => if x ∈ a then a else a ++ [x]) acc ↔ z ∈ acc ∨ z ∈ ws := by
  induction ws with
  | nil => intro acc h; exact ⟨h, fun z => by simp⟩
  | cons x ws ih =>
    intro acc h
    rw [List.foldl_cons]
    by_cases hx : x ∈ acc
    · rw [if_pos hx]
      obtain ⟨a, b⟩ := ih acc h
      refine ⟨a, fun z => ?_⟩
      rw [b z, List.mem_cons]
      constructor
      · rintro (q | q)
        · exact .inl q
        · exact .inr (.inr q)
      · rintro (q | q | q)
        · exact .inl q
        · subst q; exact .inl hx
        · exact .inr q
    · rw [if_neg hx]
      obtain ⟨a, b⟩ := ih (acc ++ [x]) (by
        rw [List.nodup_append]
        refine ⟨h, by simp, fun u hu v hv => ?_⟩
        simp at hv
        subst hv
        exact fun e => hx (e ▸ hu))
      refine ⟨a, fun z => ?_⟩
      rw [b z, List.mem_append, List.mem_singleton, List.mem_cons]
      constructor
      · rintro ((q | q) | q)
        · exact .inl q
        · exact .inr (.inl q)
        · exact .inr (.inr q)
      · rintro (q | q | q)
        · exact .inl (.inl q)
        · exact .inl (.inr q)
        · exact .inr q
theorem nub_nodup (ws : List (List Nat)) : (nub ws).Nodup := (nub_inv ws [] List.nodup_nil).1
theorem nub_mem (ws : List (List Nat)) (z : List Nat) : z ∈ nub ws ↔ z ∈ ws := by
  have := (nub_inv ws [] List.nodup_nil).2 z
  simpa [nub] using this
theorem sorted_unique : ∀ (xs ys : List (List Nat)), xs.Pairwise (fun a b => leW a b = true ∧ a ≠ b) → ys.Pairwise (fun a b => leW a b = true ∧ a ≠ b) → (∀ z, z ∈ xs ↔ z ∈ ys) → xs = ys
  | [], [], _, _, _ => rfl
  | [], y :: ys, _, _, h => absurd ((h y).mpr (by simp)) (by simp)
  | x :: xs, [], _, _, h => absurd ((h x).mp (by simp)) (by simp)
  | x :: xs, y :: ys, hx, hy, h => by
    rw [List.pairwise_cons] at hx hy
    have e : x = y := by
      rcases List.mem_cons.mp ((h x).mp (by simp)) with e | hm
      · exact e
      · rcases List.mem_cons.mp ((h y).mpr (by simp)) with e | hm2
        · exact e.symm
        · exact leW_anti x y (hx.1 y hm2).1 (hy.1 x hm).1
    subst e
    rw [sorted_unique xs ys hx.2 hy.2 fun z => ?_]
    have hz := h z
    rw [List.mem_cons, List.mem_cons] at hz
    constructor
    · intro q
      rcases hz.mp (.inr q) with e | q'
      · subst e; exact absurd rfl (hx.1 z q).2
      · exact q'
    · intro q
      rcases hz.mpr (.inr q) with e | q'
      · subst e; exact absurd rfl (hy.1 z q).2
      · exact q'
theorem inOrder_sorted (ws : List (List Nat)) : (inOrder ws).Pairwise (fun a b => leW a b = true ∧ a ≠ b) := by
  have h1 : (inOrder ws).Pairwise (fun a b => leW a b = true) := List.pairwise_mergeSort leW_trans leW_total (nub ws)
  have h2 : (inOrder ws).Nodup := (List.mergeSort_perm (nub ws) leW).nodup_iff.mpr (nub_nodup ws)
  exact h1.and h2
theorem inOrder_mem (ws : List (List Nat)) (z : List Nat) : z ∈ inOrder ws ↔ z ∈ ws := by
  unfold inOrder
  rw [(List.mergeSort_perm (nub ws) leW).mem_iff, nub_mem]
theorem adj_inv : ∀ (ws acc : List (List Nat)), acc.Pairwise (fun a b => leW a b = true ∧ a ≠ b) → ws.Pairwise (fun a b => leW a b = true) → (∀ a ∈ acc, ∀ w ∈ ws, leW a w = true) →
    (ws.foldl (fun a x => if a.getLast? = some x then a else a ++ [x]) acc).Pairwise (fun a b => leW a b = true ∧ a ≠ b) ∧ ∀ z, z ∈ ws.foldl (fun a x => if a.getLast? = some x then a else a ++ [x]) acc ↔ z ∈ acc ∨ z ∈ ws := by
  intro ws
  induction ws with
  | nil => intro acc h _ _; exact ⟨h, fun z => by simp⟩
  | cons x ws ih =>
    intro acc h hw hm
    rw [List.pairwise_cons] at hw
    rw [List.foldl_cons]
    by_cases hx : acc.getLast? = some x
    · rw [if_pos hx]
      obtain ⟨a, b⟩ := ih acc h hw.2 fun a ha w hww => hm a ha w (by simp [hww])
      refine ⟨a, fun z => ?_⟩
      rw [b z, List.mem_cons]
      have hxm : x ∈ acc := List.mem_of_getLast? hx
      constructor
      · rintro (q | q)
        · exact .inl q
        · exact .inr (.inr q)
      · rintro (q | q | q)
        · exact .inl q
        · subst q; exact .inl hxm
        · exact .inr q
    · rw [if_neg hx]
      have hnot : ∀ a ∈ acc, a ≠ x := by
        intro a ha e
        subst e
        -- the last one is at least a, and at most a
        obtain ⟨l, hl⟩ : ∃ l, acc.getLast? = some l := by
          cases q : acc.getLast? with
          | none => rw [List.getLast?_eq_none_iff] at q; subst q; cases ha
          | some l => exact ⟨l, rfl⟩
        have hlm : l ∈ acc := List.mem_of_getLast? hl
        have h1 : leW l a = true := hm l hlm a (by simp)
        have h2 : a = l ∨ leW a l = true := by
          obtain ⟨pre, e⟩ := List.getLast?_eq_some_iff.mp hl
          subst e
          rcases List.mem_append.mp ha with q | q
          · rw [List.pairwise_append] at h
            exact .inr (h.2.2 a q l (by simp)).1
          · simp at q; exact .inl q
        rcases h2 with e | h2
        · subst e; exact hx hl
        · have := leW_anti a l h2 h1
          subst this
          exact hx hl
      obtain ⟨a, b⟩ := ih (acc ++ [x]) (by
        rw [List.pairwise_append]
        refine ⟨h, by simp, fun u hu v hv => ?_⟩
        simp at hv
        subst hv
        exact ⟨hm u hu _ (by simp), hnot u hu⟩) hw.2 (by
        intro a ha w hww
        rcases List.mem_append.mp ha with q | q
        · exact hm a q w (by simp [hww])
        · simp at q; subst q; exact hw.1 w hww)
      refine ⟨a, fun z => ?_⟩
      rw [b z, List.mem_append, List.mem_singleton, List.mem_cons]
      constructor
      · rintro ((q | q) | q)
        · exact .inl q
        · exact .inr (.inl q)
        · exact .inr (.inr q)
      · rintro (q | q | q)
        · exact .inl (.inl q)
        · exact .inl (.inr q)
        · exact .inr q
/-- sorted, then adjacent ones once: the same -/
theorem adj_inOrder (ws : List (List Nat)) : adj (ws.mergeSort leW) = inOrder ws := by
  obtain ⟨h1, h2⟩ := adj_inv (ws.mergeSort leW) [] List.Pairwise.nil (List.pairwise_mergeSort leW_trans leW_total ws) (by simp)
  refine sorted_unique _ _ h1 (inOrder_sorted ws) fun z => ?_
  have := h2 z
  rw [inOrder_mem]
  show z ∈ adj (ws.mergeSort leW) ↔ _
  unfold adj
  rw [this, (List.mergeSort_perm ws leW).mem_iff]
  simp
theorem inOrder_congr {ws vs : List (List Nat)} (h : ∀ z, z ∈ ws ↔ z ∈ vs) : inOrder ws = inOrder vs := sorted_unique _ _ (inOrder_sorted ws) (inOrder_sorted vs) fun z => by rw [inOrder_mem, inOrder_mem]; exact h z
/-! ### as the program has it -/
def keyT (x : List Nat) : List D := [.int x.length, .str x]
theorem key_same (x y : List Nat) : sameK (keyT x) (keyT y, D.bl true) = decide (y = x) := by
  have e : keyD (.tup (keyT x)) = keyD (.tup (keyT y)) ↔ x = y := by
    simp only [keyT, keyD, keyDs, Option.map_some, Option.some.injEq, NestedKey.tup.injEq, List.cons.injEq, NestedKey.num.injEq, NestedKey.text.injEq, and_true]
    constructor
    · rintro ⟨_, e⟩; exact tx_inj.mp e
    · rintro rfl; exact ⟨rfl, rfl⟩
  unfold sameK
  rw [Bool.eq_iff_iff, decide_eq_true_eq, decide_eq_true_eq]
  constructor
  · intro q; exact (e.mp q.symm).symm
  · intro q; exact (e.mpr q.symm).symm
theorem okKey_T (x : List Nat) : okKey (keyT x) := ⟨.tup [.num x.length, .text (tx x)], by simp [keyT, keyD, keyDs], by simp [NestedKey.depth, NestedKey.depthAll]⟩
theorem putTs_nub : ∀ (ws acc : List (List Nat)), putTs (acc.map fun x => (keyT x, D.bl true)) (ws.map fun x => (keyT x, D.bl true)) = (ws.foldl (fun a x => if x ∈ a then a else a ++ [x]) acc).map fun x => (keyT x, D.bl true)
  | [], acc => rfl
  | x :: ws, acc => by
    rw [List.foldl_cons]
    show putTs (putT (acc.map fun x => (keyT x, D.bl true)) (keyT x) (.bl true)) (ws.map fun x => (keyT x, D.bl true)) = _
    have e : putT (acc.map fun x => (keyT x, D.bl true)) (keyT x) (.bl true) = (if x ∈ acc then acc else acc ++ [x]).map fun x => (keyT x, D.bl true) := by
      have ea : ((acc.map fun x => (keyT x, D.bl true)).any (sameK (keyT x))) = decide (x ∈ acc) := by
        rw [List.any_map, Bool.eq_iff_iff, decide_eq_true_eq, List.any_eq_true]
        constructor
        · rintro ⟨y, hy, q⟩
          have q : sameK (keyT x) (keyT y, D.bl true) = true := q
          rw [key_same, decide_eq_true_eq] at q
          subst q
          exact hy
        · intro q
          exact ⟨x, q, by show sameK (keyT x) (keyT x, D.bl true) = true; rw [key_same]; simp⟩
      unfold putT
      rw [ea]
      by_cases hx : x ∈ acc
      · rw [if_pos (by simpa using hx), if_pos hx, List.map_map]
        refine List.map_congr_left fun y _ => ?_
        show (if sameK (keyT x) (keyT y, D.bl true) = true then _ else _) = _
        split <;> rfl
      · rw [if_neg (by simpa using hx), if_neg hx, List.map_append]
        rfl
    rw [e]
    exact putTs_nub ws _
def pdW (x : List Nat) : PyData := keyW x
theorem pya_keys {h : DHp} : ∀ ws : List (List Nat), PyA h (ws.map fun x => .tup (keyT x)) (ws.map keyW)
  | [] => .nil
  | x :: ws => .cons (.tup (.cons (.int _) (.cons (.str _) .nil))) (pya_keys ws)
theorem alike_W (ws : List (List Nat)) : PySem.W.AllAlike (ws.map keyW) := by
  intro d hd d' hd'
  obtain ⟨x, _, rfl⟩ := List.mem_map.mp hd
  obtain ⟨y, _, rfl⟩ := List.mem_map.mp hd'
  simp [keyW, PySem.W.alike, PySem.W.alikeAll]
theorem sortable_W (ws : List (List Nat)) : PySem.W.Sortable (ws.map keyW) := .inl fun d hd => by
  obtain ⟨x, _, rfl⟩ := List.mem_map.mp hd
  exact ⟨_, _, rfl⟩
theorem depth_W (ws : List (List Nat)) : ∀ p ∈ ws.map keyW, p.depth ≤ 60 := fun d hd => by
  obtain ⟨x, _, rfl⟩ := List.mem_map.mp hd
  simp [keyW, PyData.depth, PyData.depthAll]
theorem sortD_W (ws : List (List Nat)) : sortD (ws.map fun x => .tup (keyT x)) (ws.map keyW) = (ws.mergeSort leW).map fun x => .tup (keyT x) := by
  unfold sortD
  have e : (ws.map fun x => D.tup (keyT x)).zip (ws.map keyW) = ws.map fun x => (D.tup (keyT x), keyW x) := by
    induction ws with
    | nil => rfl
    | cons x ws ih => simp [ih]
  rw [e, ← List.map_mergeSort (r := leW) (f := fun x => (D.tup (keyT x), keyW x)) (fun a _ b _ => rfl), List.map_map]
  rfl
end Tw
/-! From the head's facts to the premises of the walks. -/
namespace Tw
open PySem PySem.Spec PyProof.Rows L2
theorem keyOf_mem {P : Params} {es : List DictEntry} {ks : List Str} (h : es.map He.keyOf = He.keysIn P ks) {e : DictEntry} (he : e ∈ es) : ∃ k ∈ ks, ∃ t, e.key = .str k t := by
  have hm : He.keyOf e ∈ He.keysIn P ks := by rw [← h]; exact List.mem_map.mpr ⟨e, he, rfl⟩
  unfold He.keysIn at hm
  obtain ⟨k, hk, q⟩ := List.mem_map.mp hm
  unfold He.keyOf at q
  split at q
  · rename_i x t hx
    have q2 := Option.some.inj q
    obtain ⟨q3, _⟩ := Prod.mk.inj q2
    subst q3
    exact ⟨_, hk, t, hx⟩
  · cases q
theorem dicW_shape {K : PySem.W.Frag} {a : Addr} {l : List (Option (Str × Int))} (h : He.dicW K a = some l) : ∃ oc od es n sl, K.lookup a = some ⟨oc, od, .dict es n, sl⟩ ∧ es.toList.map He.keyOf = l := by
  unfold He.dicW at h
  split at h
  · rename_i c es n sl e
    split at h
    · exact ⟨_, _, es, n, sl, e, Option.some.inj h⟩
    · cases h
  · cases h
theorem hasKD_of {P : Program} {w : World} {K : PySem.W.Frag} {mg : Str → Option Value} {x : Str} {kvs : List (Str × He.Dv)} {f : List Nat → Option D} (h1 : He.dicW K (He.ga K x) = some (He.keysIn w.params (kvs.map (·.1)))) (hm : mg x = some (.ref (He.ga K x))) (h2 : He.valsB K (He.ga K x) kvs = true)
    (hf : ∀ z, (f z = none ∧ ∀ q ∈ kvs, q.1 ≠ tx z) ∨ ∃ q ∈ kvs, q.1 = tx z ∧ ∃ d, f z = some d ∧ ∀ H, Rep K H d (q.2.v K)) : HasKD P w K mg x f := by
  refine ⟨_, hm, He.dicW_ok h1, fun z => ?_⟩
  rcases hf z with ⟨fz, hn⟩ | ⟨q, hq, e, d, fz, r⟩
  · refine .inl ⟨fz, ?_⟩
    obtain ⟨oc, od, es, n, sl, lk, e⟩ := dicW_shape h1
    unfold PySem.W.nsIn
    rw [lk]
    have e1 : es.toList.find? (·.key.isStr (tx z)) = none := by
      rw [List.find?_eq_none]
      intro e' he
      obtain ⟨k, hk, t, hx⟩ := keyOf_mem e he
      obtain ⟨q, hq, e2⟩ := List.mem_map.mp hk
      have ne := hn q hq
      rw [hx]
      rw [e2] at ne
      simpa [Value.isStr] using ne
    have e2 : es.toList.any (·.refKey) = false := by
      rw [List.any_eq_false]
      intro e' he
      obtain ⟨k, hk, t, hx⟩ := keyOf_mem e he
      simp [DictEntry.refKey, hx]
    simp only [e1, e2]
    rfl
  · obtain ⟨u, hu, rv⟩ := He.valsB_ok h2 hq
    exact .inr ⟨d, _, u, fz, by rw [← e]; exact hu, rv, r⟩
/-! ### the program's exception classes -/
def ecN : Ex → Str
  | .tear => "TearError" | .machine => "NoMachine" | .rule => "NoRule" | .word => "NoWord" | .stretch => "NoStretch" | .reading => "NoReading" | .side => "NoSide" | .count => "NoCount" | .hint => "NoHint" | .check => "NoCheck"
  | .kind => "NoKind" | .things => "NoThings" | .desk => "NoDesk" | .deed => "NoDeed" | .undo => "NoUndo" | .twice => "Twice" | .notThere => "NotThere" | .tooGreat => "TooGreat" | .rivals => "Rivals"
def excB (K : PySem.W.Frag) (kn : List Ex) : Bool := kn.all fun C => kn.all fun c => (He.Fa.exm (ecN C) (ecN c) (subE C c)).ok K
def distB : List Addr → Bool
  | [] => true
  | a :: r => !(r.any fun b => a == b) && distB r
abbrev tabN (K : PySem.W.Frag) (ts : List Str) : List (Addr × Str) := ts.map fun x => ((He.cT K (x, none)).2, lamQ x)
/-- the tables and the classes of the head -/
def mkT (K : PySem.W.Frag) (ts : List Str) : Tb := ⟨tabN K ts, fun C => He.ga K (ecN C)⟩
theorem excK_of {K : PySem.W.Frag} {ts : List Str} {kn : List Ex} (h : excB K kn = true) : ExcK K (mkT K ts) kn := ⟨fun C hC c hc => by
  unfold excB at h
  exact He.exm_ok (List.all_eq_true.mp (List.all_eq_true.mp h C hC) c hc)⟩
theorem hasEx_of {K : PySem.W.Frag} {hp : Heap} {mg : Str → Option Value} {ts : List Str} {x : Str} {C : Ex} (hx : ecN C = x) (X : K.In hp) (G : hp.Ns mainGlobals mg) (g : (He.Fa.glo x).ok K = true) (e : (He.Fa.exc x).ok K = true) : HasEx K mg (mkT K ts) x C := by
  subst hx
  obtain ⟨h1, h2, h3, h4⟩ := He.exc_ok e
  exact ⟨He.glo_ok X G g, h1, h2, h3, h4⟩
theorem tab_in {K : PySem.W.Frag} {ts : List Str} {x : Str} (h : x ∈ ts) : ((He.cT K (x, none)).2, lamQ x) ∈ (mkT K ts).tabs := List.mem_map.mpr ⟨x, h, rfl⟩
theorem dist_one {K : PySem.W.Frag} : ∀ {ts : List Str} {x y : Str}, distB (ts.map fun x => (He.cT K (x, none)).2) = true → x ∈ ts → y ∈ ts → (He.cT K (y, none)).2 = (He.cT K (x, none)).2 → y = x
  | [], _, _, _, h, _, _ => by cases h
  | z :: ts, x, y, hd, hx, hy, e => by
    rw [List.map_cons, distB, Bool.and_eq_true] at hd
    have no : ∀ u ∈ ts, (He.cT K (z, none)).2 ≠ (He.cT K (u, none)).2 := fun u hu ee => by
      have h1 := hd.1
      rw [Bool.not_eq_true', List.any_eq_false] at h1
      exact h1 _ (List.mem_map.mpr ⟨u, hu, rfl⟩) (by rw [ee]; simp)
    rcases List.mem_cons.mp hx with rfl | hx' <;> rcases List.mem_cons.mp hy with rfl | hy'
    · rfl
    · exact absurd e.symm (no y hy')
    · exact absurd e (no x hx')
    · exact dist_one hd.2 hx' hy' e
theorem tab_one {K : PySem.W.Frag} {ts : List Str} {x : Str} (hd : distB (ts.map fun x => (He.cT K (x, none)).2) = true) (h : x ∈ ts) : ∀ p ∈ (mkT K ts).tabs, p.1 = (He.cT K (x, none)).2 → p.2 = lamQ x := by
  intro p hp e
  obtain ⟨y, hy, rfl⟩ := List.mem_map.mp hp
  have := dist_one hd h hy e
  subst this
  rfl
theorem cat_of {K : PySem.W.Frag} {mg : Str → Option Value} {T : Tb} {x lst a : Str} {cls : List (Ex × List Nat)} {last : List Nat} {pg : Arguments} {body : List Stmt} {sg : Scope} {f : Addr} {fd : FuncData} {Ng : List Str} {h0 : ExceptHandler} {hds : List ExceptHandler} {j : Nat} {p1 p2 p3 p4 p5 p6 : Pos}
    (F : FunD K x x pg body sg [] [] f fd) (hb : body = [.Try [.Expr (.Call (.Name a p1) [] [] p2) p3] (h0 :: hds) [] [] p4, .Return (some (.Constant (.str lst) j p5)) p6]) (hlst : lst = tx last) (hm : mg x = some (.ref f)) (Sg : FnScope Ng [a] sg) (hNg : Ng[0]? = some a) (hva : Vis sg a)
    (h00 : ∀ f : Addr, (L2.start Ng [V.ref f])[0]? = some (some (V.ref f))) (hh : CatH sg Ng mg (h0 :: hds) (catVs T cls)) (B : Binds K fd [a] []) (hd : (a == ("__debug__" : Str)) = false) (hcd : (a == ("__classdict__" : Str)) = false) : HasCat K mg T x cls last := by
  subst hb
  obtain ⟨oc, od, dV, kV, doc, pm, an, cdv, ct, osl, e, lk, hc, _, _⟩ := F.ex
  subst e
  exact .mk hlst hm F.kp lk hc B Sg hNg hva h00 hh hd hcd
theorem says_dic {fa : List He.Fa} {fn : List He.DefD} {ts : List He.Tab} {w : World} {K : PySem.W.Frag} (c : He.SaysT fa fn ts w K) (i : Nat) {t : He.Tab} (h : ts[i]? = some t) : He.dicW K (t.1 K) = some (He.keysIn w.params t.2) := by
  have e : ts.map (fun t => He.dicW K (t.1 K)) = ts.map fun t => some (He.keysIn w.params t.2) := congrArg (fun z : He.AlT => z.2) c
  have e2 : (ts.map fun t => He.dicW K (t.1 K))[i]? = (ts.map fun t => some (He.keysIn w.params t.2))[i]? := by rw [e]
  rw [List.getElem?_map, List.getElem?_map, h] at e2
  exact Option.some.inj e2
end Tw
/-! the head of tearwords_k44_whole_kinds_compared, printed by wip/genhead.py -/
namespace Hk44
open PySem PySem.Spec PyProof.Rows L2
def top (i : Nat) : Stmt := PySem.Challenge.pw_tearwords_k44_whole_kinds_compared.main.body.getD i (.Pass ⟨0, 0, 0, 0⟩)
abbrev s_is_within : Stmt := top 8
abbrev s_is_made_of : Stmt := top 9
abbrev s_is_text : Stmt := top 10
abbrev s_need_text : Stmt := top 11
abbrev s_in_order : Stmt := top 12
abbrev s_is_rule : Stmt := top 17
abbrev s_raw_tear : Stmt := top 18
abbrev s_raw_readings : Stmt := top 19
abbrev s_need_kind : Stmt := top 21
abbrev s_need_pair : Stmt := top 22
abbrev s_first_shared : Stmt := top 23
abbrev s_as_open : Stmt := top 24
abbrev s_as_closed : Stmt := top 25
abbrev s__law_open : Stmt := top 27
abbrev s__law_spread : Stmt := top 28
abbrev s__law_take : Stmt := top 29
abbrev s__law_one_of : Stmt := top 30
abbrev s__law_any_machine : Stmt := top 31
abbrev s__law_run : Stmt := top 32
abbrev s__law_has : Stmt := top 33
abbrev s__law_words : Stmt := top 34
abbrev s__law_sorted : Stmt := top 35
abbrev s__law_any_rule : Stmt := top 36
abbrev s__law_torn : Stmt := top 37
abbrev s__law_readings : Stmt := top 38
abbrev s__law_word : Stmt := top 39
abbrev s__law_text : Stmt := top 40
abbrev s__law_sources : Stmt := top 41
abbrev s__law_any_reading : Stmt := top 42
abbrev s__law_refused_right : Stmt := top 43
abbrev s__law_pair_right : Stmt := top 44
abbrev s_law : Stmt := top 45
def d_is_within : He.DefD := ⟨("is_within", none), "is_within", "is_within", defArgs s_is_within, defBody s_is_within, defScope s_is_within, [], []⟩
def d_is_made_of : He.DefD := ⟨("is_made_of", none), "is_made_of", "is_made_of", defArgs s_is_made_of, defBody s_is_made_of, defScope s_is_made_of, [], []⟩
def d_is_text : He.DefD := ⟨("is_text", none), "is_text", "is_text", defArgs s_is_text, defBody s_is_text, defScope s_is_text, [], []⟩
def d_need_text : He.DefD := ⟨("need_text", none), "need_text", "need_text", defArgs s_need_text, defBody s_need_text, defScope s_need_text, [], []⟩
def d_in_order : He.DefD := ⟨("in_order", none), "in_order", "in_order", defArgs s_in_order, defBody s_in_order, defScope s_in_order, [], []⟩
def d_is_rule : He.DefD := ⟨("is_rule", none), "is_rule", "is_rule", defArgs s_is_rule, defBody s_is_rule, defScope s_is_rule, [], []⟩
def d_raw_tear : He.DefD := ⟨("raw_tear", none), "raw_tear", "raw_tear", defArgs s_raw_tear, defBody s_raw_tear, defScope s_raw_tear, [], []⟩
def d_raw_readings : He.DefD := ⟨("raw_readings", none), "raw_readings", "raw_readings", defArgs s_raw_readings, defBody s_raw_readings, defScope s_raw_readings, [], []⟩
def d_need_kind : He.DefD := ⟨("need_kind", none), "need_kind", "need_kind", defArgs s_need_kind, defBody s_need_kind, defScope s_need_kind, [], []⟩
def d_need_pair : He.DefD := ⟨("need_pair", none), "need_pair", "need_pair", defArgs s_need_pair, defBody s_need_pair, defScope s_need_pair, [], []⟩
def d_first_shared : He.DefD := ⟨("first_shared", none), "first_shared", "first_shared", defArgs s_first_shared, defBody s_first_shared, defScope s_first_shared, [], []⟩
def d_as_open : He.DefD := ⟨("as_open", none), "as_open", "as_open", defArgs s_as_open, defBody s_as_open, defScope s_as_open, [], []⟩
def d_as_closed : He.DefD := ⟨("as_closed", none), "as_closed", "as_closed", defArgs s_as_closed, defBody s_as_closed, defScope s_as_closed, [], []⟩
def d__law_open : He.DefD := ⟨("_law_open", none), "_law_open", "_law_open", defArgs s__law_open, defBody s__law_open, defScope s__law_open, [], []⟩
def d__law_spread : He.DefD := ⟨("_law_spread", none), "_law_spread", "_law_spread", defArgs s__law_spread, defBody s__law_spread, defScope s__law_spread, [], []⟩
def d__law_take : He.DefD := ⟨("_law_take", none), "_law_take", "_law_take", defArgs s__law_take, defBody s__law_take, defScope s__law_take, [], []⟩
def d__law_one_of : He.DefD := ⟨("_law_one_of", none), "_law_one_of", "_law_one_of", defArgs s__law_one_of, defBody s__law_one_of, defScope s__law_one_of, [], []⟩
def d__law_any_machine : He.DefD := ⟨("_law_any_machine", none), "_law_any_machine", "_law_any_machine", defArgs s__law_any_machine, defBody s__law_any_machine, defScope s__law_any_machine, [], []⟩
def d__law_run : He.DefD := ⟨("_law_run", none), "_law_run", "_law_run", defArgs s__law_run, defBody s__law_run, defScope s__law_run, [], []⟩
def d__law_has : He.DefD := ⟨("_law_has", none), "_law_has", "_law_has", defArgs s__law_has, defBody s__law_has, defScope s__law_has, [], []⟩
def d__law_words : He.DefD := ⟨("_law_words", none), "_law_words", "_law_words", defArgs s__law_words, defBody s__law_words, defScope s__law_words, [], []⟩
def d__law_sorted : He.DefD := ⟨("_law_sorted", none), "_law_sorted", "_law_sorted", defArgs s__law_sorted, defBody s__law_sorted, defScope s__law_sorted, [], []⟩
def d__law_any_rule : He.DefD := ⟨("_law_any_rule", none), "_law_any_rule", "_law_any_rule", defArgs s__law_any_rule, defBody s__law_any_rule, defScope s__law_any_rule, [], []⟩
def d__law_torn : He.DefD := ⟨("_law_torn", none), "_law_torn", "_law_torn", defArgs s__law_torn, defBody s__law_torn, defScope s__law_torn, [], []⟩
def d__law_readings : He.DefD := ⟨("_law_readings", none), "_law_readings", "_law_readings", defArgs s__law_readings, defBody s__law_readings, defScope s__law_readings, [], []⟩
def d__law_word : He.DefD := ⟨("_law_word", none), "_law_word", "_law_word", defArgs s__law_word, defBody s__law_word, defScope s__law_word, [], []⟩
def d__law_text : He.DefD := ⟨("_law_text", none), "_law_text", "_law_text", defArgs s__law_text, defBody s__law_text, defScope s__law_text, [], []⟩
def d__law_sources : He.DefD := ⟨("_law_sources", none), "_law_sources", "_law_sources", defArgs s__law_sources, defBody s__law_sources, defScope s__law_sources, [], []⟩
def d__law_any_reading : He.DefD := ⟨("_law_any_reading", none), "_law_any_reading", "_law_any_reading", defArgs s__law_any_reading, defBody s__law_any_reading, defScope s__law_any_reading, [], []⟩
def d__law_refused_right : He.DefD := ⟨("_law_refused_right", none), "_law_refused_right", "_law_refused_right", defArgs s__law_refused_right, defBody s__law_refused_right, defScope s__law_refused_right, [], []⟩
def d__law_pair_right : He.DefD := ⟨("_law_pair_right", none), "_law_pair_right", "_law_pair_right", defArgs s__law_pair_right, defBody s__law_pair_right, defScope s__law_pair_right, [], []⟩
def d_law : He.DefD := ⟨("law", none), "law", "law", defArgs s_law, defBody s_law, defScope s_law, [], []⟩
def fn : List He.DefD := [d_is_within, d_is_made_of, d_is_text, d_need_text, d_in_order, d_is_rule, d_raw_tear, d_raw_readings, d_need_kind, d_need_pair, d_first_shared, d_as_open, d_as_closed, d__law_open, d__law_spread, d__law_take, d__law_one_of, d__law_any_machine, d__law_run, d__law_has, d__law_words, d__law_sorted, d__law_any_rule, d__law_torn, d__law_readings, d__law_word, d__law_text, d__law_sources, d__law_any_reading, d__law_refused_right, d__law_pair_right, d_law]
def fa : List He.Fa := [.glo "is_within", .glo "is_made_of", .glo "is_text", .glo "need_text", .glo "in_order", .glo "is_rule", .glo "raw_tear", .glo "raw_readings", .glo "need_kind", .glo "need_pair", .glo "first_shared", .glo "as_open", .glo "as_closed", .glo "_law_open", .glo "_law_spread", .glo "_law_take", .glo "_law_one_of", .glo "_law_any_machine", .glo "_law_run", .glo "_law_has", .glo "_law_words", .glo "_law_sorted", .glo "_law_any_rule", .glo "_law_torn", .glo "_law_readings", .glo "_law_word", .glo "_law_text", .glo "_law_sources", .glo "_law_any_reading", .glo "_law_refused_right", .glo "_law_pair_right", .glo "law", .glo "TearError", .exc "TearError", .keep "TearError", .glo "NoRule", .exc "NoRule", .keep "NoRule", .glo "NoWord", .exc "NoWord", .keep "NoWord", .glo "NoReading", .exc "NoReading", .keep "NoReading", .free "ValueError", .free "all", .free "bool", .free "enumerate", .free "int", .free "isinstance", .free "len", .free "list", .free "min", .free "range", .free "sorted", .free "str", .free "tuple", .str "SMALL" "abcdefghijklmnopqrstuvwxyz", .int "MOST_SIGNS" 200, .glo "BOUNDS", .str "BLANK" "?", .str "MARK" "*"]
def ts : List He.Tab := [((fun K => He.ga K "BOUNDS"), ["faded", "open", "closed", "doubled"])]
def tf : List He.Defn := [("_law_refused_right", none), ("law", none)]
def lams : List Str := ["_law_refused_right", "law"]
def kn : List Tw.Ex := [.tear, .rule, .word, .reading]
def kv_BOUNDS : List (Str × He.Dv) := [("faded", .int 3), ("open", .int 3), ("closed", .int 3), ("doubled", .int 2)]
def ex (K : PySem.W.Frag) : Bool := Tw.excB K kn && (Tw.distB (lams.map fun x => (He.cT K (x, none)).2) && He.valsB K (He.ga K "BOUNDS") kv_BOUNDS)
abbrev R : PySem.W.OpenRow := PySem.W.OpenLaw.row PySem.Challenge.rw_tearwords_k44_whole_kinds_compared
abbrev hk : PySem.W.Hook := He.hookX 6 fa fn ts tf ex
def ob (s : PySem.W.SharedT) : He.AlX := He.obsX 6 fa fn ts tf ex (HandSHeadRun.getT s)
theorem ob_eq (s : PySem.W.SharedT) : ob s = hk.obs s.abs := He.obsX_eq (HandSHeadRun.getT_eq s)
def loose0 : List Str := ["TearError", "NoRule", "NoWord", "NoReading", "SMALL", "MOST_SIGNS", "is_within", "is_made_of", "is_text", "need_text", "in_order", "BOUNDS", "BLANK", "MARK", "is_rule", "raw_tear", "raw_readings", "need_kind", "need_pair", "first_shared", "as_open", "as_closed", "_law_open", "_law_spread", "_law_take", "_law_one_of", "_law_any_machine", "_law_run", "_law_has", "_law_words"]
def loose1 : List Str := ["_law_sorted", "_law_any_rule", "_law_torn", "_law_readings", "_law_word", "_law_text", "_law_sources", "_law_any_reading", "_law_refused_right", "_law_pair_right"]
def loose : List Str := loose0 ++ loose1
abbrev qv : Program := PySem.W.view R.prog [45]
theorem run (w : World) : HandSHeadRun.RunEq R qv hk ob 4000 loose w := by
  refine PySem.W.byRow2 "special-get-raises" (P := fun w => HandSHeadRun.RunEq R qv hk ob 4000 loose w) (fun w => ?_) (fun w => ?_) w
  · intro os
    kernel_rfl
  · intro os
    kernel_rfl
end Hk44
/-! What the defs of machines, tears and of law k33 do, over data. -/
namespace Tw
open PySem PySem.Spec PyProof.Rows L2
abbrev Tx := List Nat
/-- what isinstance may ask of -/
def Plain (d : D) (h : DHp) : Prop := ∀ t, ∃ b, isA t d h = some b
/-- least <= thing <= most, thing a whole number -/
def within (t : D) (a b : Int) : Bool := match t with
  | .int i => decide (a ≤ i) && decide (i ≤ b)
  | _ => false
theorem isA_int {d : D} {h : DHp} (h1 : isA .int d h = some true) (h2 : isA .bool d h = some false) : ∃ i, d = .int i := by
  cases d with
  | int i => exact ⟨i, rfl⟩
  | bl b => simp [isA] at h2
  | ref a =>
    simp only [isA] at h1
    split at h1 <;> simp at h1
  | _ => simp [isA] at h1
theorem within_no {d : D} {h : DHp} {a b : Int} (e : isA .int d h = some false ∨ isA .bool d h = some true) : within d a b = false := by
  cases d with
  | int i => simp [isA] at e
  | _ => rfl
def sp_is_within : SpD := fun ds h Q _ => match ds with
  | [t, .int a, .int b] => Plain t h ∧ Q (.bl (within t a b)) h
  | _ => False
/-- is_within(thing, least, most); slots: thing 0, least 1, most 2 -/
def N_is_within : List Str := ["thing", "least", "most"]
def m_is_within : MS := dRet (dAndV (dIsA .int (dVar 0)) (dAndV (dNotV (dIsA .bool (dVar 0))) (dChain dLe dLe (dVar 1) (dVar 0) (dVar 2))))
theorem st_is_within (a0 a1 a2 : D) : startD N_is_within [a0, a1, a2] = [some a0, some a1, some a2] := rfl
theorem ok_is_within (ds : List D) (h : DHp) (Q : DK) (E : DX) (hn : ds.length = 3) (q : sp_is_within ds h Q E) : m_is_within (endsD Q E) (startD N_is_within ds) h := by
  match ds, q with
  | [t, .int a, .int b], ⟨pl, q⟩ =>
    simp only [m_is_within, st_is_within, forall_const, true_implies, false_implies, implies_true, and_true, true_and, reduceCtorEq, Bool.not_true, Bool.not_false, Bool.true_xor, Bool.false_xor, Option.some.injEq, exists_eq_left', put_same, onB_bl, dSeq, dNext, dBreak, dDrop, dRet, dRetN, dIfS, dName, dgNil, dgCons, dgTup, dAsg, dPar, dPar3, dSetI, dgSub, dRaise, dVar, dC, dOp, dTest, dAnd, dOr, dNot, dAndV, dOrV, dNotV, dIf, dNil, dCons, dTup, dLst, dCall, dCB, dMt, dMt0, dInC, dIxC, dChain, dNeg, dNoPart, dPart, dSl, exE, dIsA, dCat, catchD, subE, Ex.ix, endsD, dLc, dISeq, dIRng1, dIRng2, dIEnum, dFor, dDcT, dDcK, dCallV, mStarts_str, List.getElem?_cons_zero, List.getElem?_cons_succ, List.set_cons_zero, List.set_cons_succ, onL_lst, isA_non, isA_int_int, isA_bool_int, isA_str_int, isA_tup_int, isA_lst_int, isA_int_str, isA_bool_str, isA_str_str, isA_tup_str, isA_lst_str, isA_int_tup, isA_bool_tup, isA_str_tup, isA_tup_tup, isA_lst_tup, isA_int_bl, isA_bool_bl, isA_str_bl, isA_tup_bl, isA_lst_bl, dAdd_int, dAdd_str, dAdd_tup, dAdd_ref, dSub_int, dLt_int, dLe_int, dGt_int, dGe_int, dMul_int, dMul_str, dMul_ref, dMod_int, dFdiv_int, dPow_int, dIsN_, dNotN_, isNon_int, isNon_non, dEq_str, dEq_int, dNe_str, dNe_int, dIn_sign, dIx_str, dIx_tup, dIx_scr, dIx_ref, dCut_str, dCut_tup, dCut_scr, dCut_ref, bLen_str, bLen_tup, bLen_ref, bInt_int, bInt_bl, bTup_tup, bTup_ref, bList_str, bList_tup, bList_ref, tyD_str, mAppend_ref, mExtend_ref, tyL, dSetL_ref, mJoin_ref, bMin_ref, bMax_ref, atI_0, atI_1, atI_2]
    obtain ⟨b1, e1⟩ := pl .int
    obtain ⟨b2, e2⟩ := pl .bool
    refine ⟨b1, e1, fun h1 => ⟨b2, e2, fun h2 => ?_, fun h2 => ?_⟩, fun h1 => ?_⟩
    · have z2 : b2 = false := by simpa using h2
      subst h1 z2
      obtain ⟨i, rfl⟩ := isA_int e1 e2
      simp only [onB]
      refine ⟨fun h1 => fgt_here ?_, fun h1 => fgt_here ?_⟩
      · simpa [within, h1] using q
      · simpa [within, h1] using q
    · have z2 : b2 = true := by simpa using h2
      subst z2
      rw [within_no (.inr e2)] at q
      exact fgt_here q
    · subst h1
      rw [within_no (.inl e1)] at q
      exact fgt_here q
/-- all of text's signs are among letters -/
def madeOf (x l : Tx) : Bool := x.all fun c => decide (c ∈ l)
def sp_is_made_of : SpD := fun ds h Q _ => match ds with
  | [.str x, .str l] => x.length ≤ 10000 ∧ Q (.bl (madeOf x l)) h
  | _ => False
/-- is_made_of(text, letters); slots: text 0, letters 1, sign 2 -/
def N_is_made_of : List Str := ["text", "letters", "sign"]
def m_is_made_of : MS := dRet (dCB (bAll fun bs => bs.all id) (dCons (dLc (dISeq (dVar 0)) (.nm 2) (dYes) (dOp (dIn false) (dVar 2) (dVar 1)) [2]) (dNil)))
theorem st_is_made_of (a0 a1 : D) : startD N_is_made_of [a0, a1] = [some a0, some a1, none] := rfl
theorem ok_is_made_of (ds : List D) (h : DHp) (Q : DK) (E : DX) (hn : ds.length = 2) (q : sp_is_made_of ds h Q E) : m_is_made_of (endsD Q E) (startD N_is_made_of ds) h := by
  match ds, q with
  | [.str x, .str l], ⟨hz, q⟩ =>
    simp only [m_is_made_of, st_is_made_of, forall_const, true_implies, false_implies, implies_true, and_true, true_and, reduceCtorEq, Bool.not_true, Bool.not_false, Bool.true_xor, Bool.false_xor, Option.some.injEq, exists_eq_left', put_same, onB_bl, dSeq, dNext, dBreak, dDrop, dRet, dRetN, dIfS, dName, dgNil, dgCons, dgTup, dAsg, dPar, dPar3, dSetI, dgSub, dRaise, dVar, dC, dOp, dTest, dAnd, dOr, dNot, dAndV, dOrV, dNotV, dIf, dNil, dCons, dTup, dLst, dCall, dCB, dMt, dMt0, dInC, dIxC, dChain, dNeg, dNoPart, dPart, dSl, exE, dIsA, dCat, catchD, subE, Ex.ix, endsD, dLc, dISeq, dIRng1, dIRng2, dIEnum, dFor, dDcT, dDcK, dCallV, mStarts_str, List.getElem?_cons_zero, List.getElem?_cons_succ, List.set_cons_zero, List.set_cons_succ, onL_lst, isA_non, isA_int_int, isA_bool_int, isA_str_int, isA_tup_int, isA_lst_int, isA_int_str, isA_bool_str, isA_str_str, isA_tup_str, isA_lst_str, isA_int_tup, isA_bool_tup, isA_str_tup, isA_tup_tup, isA_lst_tup, isA_int_bl, isA_bool_bl, isA_str_bl, isA_tup_bl, isA_lst_bl, dAdd_int, dAdd_str, dAdd_tup, dAdd_ref, dSub_int, dLt_int, dLe_int, dGt_int, dGe_int, dMul_int, dMul_str, dMul_ref, dMod_int, dFdiv_int, dPow_int, dIsN_, dNotN_, isNon_int, isNon_non, dEq_str, dEq_int, dNe_str, dNe_int, dIn_sign, dIx_str, dIx_tup, dIx_scr, dIx_ref, dCut_str, dCut_tup, dCut_scr, dCut_ref, bLen_str, bLen_tup, bLen_ref, bInt_int, bInt_bl, bTup_tup, bTup_ref, bList_str, bList_tup, bList_ref, tyD_str, mAppend_ref, mExtend_ref, tyL, dSetL_ref, mJoin_ref, bMin_ref, bMax_ref, atI_0, atI_1, atI_2, dLc, dISeq]
    refine lcB_map (fun d => match d with | .str [c] => .bl (decide (c ∈ l)) | _ => .non) True.intro (by rw [List.length_map, sizeLine_eq]; omega) (fun d hd => ?_) fun p np => ?_
    · obtain ⟨c, hc, rfl⟩ := List.mem_map.mp hd
      refine ⟨_, rfl, fun K k => ?_⟩
      show K (.bl (xor false (decide (c ∈ l)))) h
      simpa using k
    · refine ⟨x.map fun c => decide (c ∈ l), ?_, h, Less.put np, ?_⟩
      · simp [listD, put_same, List.map_map, Function.comp_def]
      · have e : (x.map fun c => decide (c ∈ l)).all id = madeOf x l := by simp [madeOf, List.all_map, Function.comp_def]
        show Q (.bl ((x.map fun c => decide (c ∈ l)).all id)) h
        rw [e]
        exact q
/-- a word of letters: a text of at most two hundred signs, all among them -/
def isText (t : D) (l : Tx) : Bool := match t with
  | .str x => decide (x.length ≤ 200) && madeOf x l
  | _ => false
def sp_is_text : SpD := fun ds h Q _ => match ds with
  | [t, .str l] => Plain t h ∧ (∀ x, t = .str x → x.length ≤ 10000) ∧ Q (.bl (isText t l)) h
  | _ => False
/-- is_text(thing, letters); slots: thing 0, letters 1 -/
def N_is_text : List Str := ["thing", "letters"]
def m_is_text : MS := dRet (dAndV (dIsA .str (dVar 0)) (dAndV (dOp dLe (dCB bLen (dCons (dVar 0) (dNil))) (dC (.int 200))) (dCall 2 sp_is_made_of (dCons (dVar 0) (dCons (dVar 1) (dNil))))))
theorem st_is_text (a0 a1 : D) : startD N_is_text [a0, a1] = [some a0, some a1] := rfl
theorem ok_is_text (ds : List D) (h : DHp) (Q : DK) (E : DX) (hn : ds.length = 2) (q : sp_is_text ds h Q E) : m_is_text (endsD Q E) (startD N_is_text ds) h := by
  match ds, q with
  | [t, .str l], ⟨pl, hz, q⟩ =>
    simp only [m_is_text, st_is_text, forall_const, true_implies, false_implies, implies_true, and_true, true_and, reduceCtorEq, Bool.not_true, Bool.not_false, Bool.true_xor, Bool.false_xor, Option.some.injEq, exists_eq_left', put_same, onB_bl, dSeq, dNext, dBreak, dDrop, dRet, dRetN, dIfS, dName, dgNil, dgCons, dgTup, dAsg, dPar, dPar3, dSetI, dgSub, dRaise, dVar, dC, dOp, dTest, dAnd, dOr, dNot, dAndV, dOrV, dNotV, dIf, dNil, dCons, dTup, dLst, dCall, dCB, dMt, dMt0, dInC, dIxC, dChain, dNeg, dNoPart, dPart, dSl, exE, dIsA, dCat, catchD, subE, Ex.ix, endsD, dLc, dISeq, dIRng1, dIRng2, dIEnum, dFor, dDcT, dDcK, dCallV, mStarts_str, List.getElem?_cons_zero, List.getElem?_cons_succ, List.set_cons_zero, List.set_cons_succ, onL_lst, isA_non, isA_int_int, isA_bool_int, isA_str_int, isA_tup_int, isA_lst_int, isA_int_str, isA_bool_str, isA_str_str, isA_tup_str, isA_lst_str, isA_int_tup, isA_bool_tup, isA_str_tup, isA_tup_tup, isA_lst_tup, isA_int_bl, isA_bool_bl, isA_str_bl, isA_tup_bl, isA_lst_bl, dAdd_int, dAdd_str, dAdd_tup, dAdd_ref, dSub_int, dLt_int, dLe_int, dGt_int, dGe_int, dMul_int, dMul_str, dMul_ref, dMod_int, dFdiv_int, dPow_int, dIsN_, dNotN_, isNon_int, isNon_non, dEq_str, dEq_int, dNe_str, dNe_int, dIn_sign, dIx_str, dIx_tup, dIx_scr, dIx_ref, dCut_str, dCut_tup, dCut_scr, dCut_ref, bLen_str, bLen_tup, bLen_ref, bInt_int, bInt_bl, bTup_tup, bTup_ref, bList_str, bList_tup, bList_ref, tyD_str, mAppend_ref, mExtend_ref, tyL, dSetL_ref, mJoin_ref, bMin_ref, bMax_ref, atI_0, atI_1, atI_2]
    obtain ⟨b, e⟩ := pl .str
    refine ⟨b, e, fun hb => ?_, fun hb => ?_⟩
    · subst hb
      have z : ∃ x, t = .str x := by
        cases t with
        | str x => exact ⟨x, rfl⟩
        | ref a => simp only [isA] at e; split at e <;> simp at e
        | _ => simp [isA] at e
      obtain ⟨x, rfl⟩ := z
      have hx := hz x rfl
      refine ⟨by rw [sizeLine_eq]; omega, ?_⟩
      refine ⟨fun h1 => ⟨rfl, hx, fgt_here ?_⟩, fun h1 => fgt_here ?_⟩
      · have h1 : x.length ≤ 200 := by have := of_decide_eq_true h1; omega
        simpa [isText, h1] using q
      · have h1 : ¬ x.length ≤ 200 := by have := of_decide_eq_false h1; omega
        simpa [isText, h1] using q
    · subst hb
      have z : isText t l = false := by
        cases t with
        | str x => simp [isA] at e
        | _ => rfl
      rw [z] at q
      exact fgt_here q
def sp_need_text : SpD := fun ds h Q E => match ds with
  | [t, .str l] => Plain t h ∧ (∀ x, t = .str x → x.length ≤ 10000) ∧ (isText t l = true → Q .non h) ∧ (isText t l = false → E .word h)
  | _ => False
/-- need_text(thing, letters); slots: thing 0, letters 1 -/
def N_need_text : List Str := ["thing", "letters"]
def m_need_text : MS := dIfS (dNot (dTest (dCall 2 sp_is_text (dCons (dVar 0) (dCons (dVar 1) (dNil)))))) (dRaise .word) (dNext)
theorem st_need_text (a0 a1 : D) : startD N_need_text [a0, a1] = [some a0, some a1] := rfl
theorem ok_need_text (ds : List D) (h : DHp) (Q : DK) (E : DX) (hn : ds.length = 2) (q : sp_need_text ds h Q E) : m_need_text (endsD Q E) (startD N_need_text ds) h := by
  match ds, q with
  | [t, .str l], ⟨pl, hz, q1, q2⟩ =>
    simp only [m_need_text, st_need_text, forall_const, true_implies, false_implies, implies_true, and_true, true_and, reduceCtorEq, Bool.not_true, Bool.not_false, Bool.true_xor, Bool.false_xor, Option.some.injEq, exists_eq_left', put_same, onB_bl, dSeq, dNext, dBreak, dDrop, dRet, dRetN, dIfS, dName, dgNil, dgCons, dgTup, dAsg, dPar, dPar3, dSetI, dgSub, dRaise, dVar, dC, dOp, dTest, dAnd, dOr, dNot, dAndV, dOrV, dNotV, dIf, dNil, dCons, dTup, dLst, dCall, dCB, dMt, dMt0, dInC, dIxC, dChain, dNeg, dNoPart, dPart, dSl, exE, dIsA, dCat, catchD, subE, Ex.ix, endsD, dLc, dISeq, dIRng1, dIRng2, dIEnum, dFor, dDcT, dDcK, dCallV, mStarts_str, List.getElem?_cons_zero, List.getElem?_cons_succ, List.set_cons_zero, List.set_cons_succ, onL_lst, isA_non, isA_int_int, isA_bool_int, isA_str_int, isA_tup_int, isA_lst_int, isA_int_str, isA_bool_str, isA_str_str, isA_tup_str, isA_lst_str, isA_int_tup, isA_bool_tup, isA_str_tup, isA_tup_tup, isA_lst_tup, isA_int_bl, isA_bool_bl, isA_str_bl, isA_tup_bl, isA_lst_bl, dAdd_int, dAdd_str, dAdd_tup, dAdd_ref, dSub_int, dLt_int, dLe_int, dGt_int, dGe_int, dMul_int, dMul_str, dMul_ref, dMod_int, dFdiv_int, dPow_int, dIsN_, dNotN_, isNon_int, isNon_non, dEq_str, dEq_int, dNe_str, dNe_int, dIn_sign, dIx_str, dIx_tup, dIx_scr, dIx_ref, dCut_str, dCut_tup, dCut_scr, dCut_ref, bLen_str, bLen_tup, bLen_ref, bInt_int, bInt_bl, bTup_tup, bTup_ref, bList_str, bList_tup, bList_ref, tyD_str, mAppend_ref, mExtend_ref, tyL, dSetL_ref, mJoin_ref, bMin_ref, bMax_ref, atI_0, atI_1, atI_2]
    refine ⟨rfl, pl, hz, ?_⟩
    simp only [onB]
    refine ⟨fun h1 => ⟨h, Less.refl, q2 (by simpa using h1)⟩, fun h1 => fgt_here (q1 (by simpa using h1))⟩
/-! ### rules -/
abbrev kF : Tx := [102, 97, 100, 101, 100]
abbrev kO : Tx := [111, 112, 101, 110]
abbrev kC : Tx := [99, 108, 111, 115, 101, 100]
abbrev kD : Tx := [100, 111, 117, 98, 108, 101, 100]
def k_BOUNDS (z : Tx) : Option D := if z = kF then some (.int 3) else if z = kO then some (.int 3) else if z = kC then some (.int 3) else if z = kD then some (.int 2) else none
/-- is it a rule? (as far as is_rule can be asked: plain parts) -/
def isRule (t : D) : Bool := match t with
  | .tup [.str k, a, b] => (match k_BOUNDS k with
    | some (.int m) => within b 0 m && (match b with
      | .int m' => within a 0 m'
      | _ => false)
    | _ => false)
  | _ => false
def sp_is_rule : SpD := fun ds h Q _ => match ds with
  | [t] => Plain t h ∧ (∀ xs, t = .tup xs → ∀ x ∈ xs, Plain x h) ∧ Q (.bl (isRule t)) h
  | _ => False
/-- is_rule(thing); slots: thing 0 -/
def N_is_rule : List Str := ["thing"]
def m_is_rule : MS := dSeq (dIfS (dOr (dNot (dTest (dIsA .tup (dVar 0)))) (dOr (dTest (dOp dNe (dCB bLen (dCons (dVar 0) (dNil))) (dC (.int 3)))) (dOr (dNot (dTest (dIsA .str (dOp dIx (dVar 0) (dC (.int 0)))))) (dTest (dInC k_BOUNDS true (dOp dIx (dVar 0) (dC (.int 0)))))))) (dRet (dC (.bl false))) (dNext)) (dRet (dAndV (dCall 3 sp_is_within (dCons (dOp dIx (dVar 0) (dC (.int 2))) (dCons (dC (.int 0)) (dCons (dIxC k_BOUNDS (dOp dIx (dVar 0) (dC (.int 0)))) (dNil))))) (dCall 3 sp_is_within (dCons (dOp dIx (dVar 0) (dC (.int 1))) (dCons (dC (.int 0)) (dCons (dOp dIx (dVar 0) (dC (.int 2))) (dNil)))))))
theorem st_is_rule (a0 : D) : startD N_is_rule [a0] = [some a0] := rfl
theorem plain_ty {d : D} {h : DHp} (pl : Plain d h) : (∃ xs, d = .tup xs) ∨ isA .tup d h = some false := by
  obtain ⟨b, e⟩ := pl .tup
  cases d with
  | tup xs => exact .inl ⟨xs, rfl⟩
  | ref a => right; simp only [isA] at e ⊢; split at e <;> simp at e ⊢
  | ty n => cases e
  | fn n => cases e
  | _ => exact .inr rfl
theorem plain_str {d : D} {h : DHp} (pl : Plain d h) : (∃ x, d = .str x) ∨ isA .str d h = some false := by
  obtain ⟨b, e⟩ := pl .str
  cases d with
  | str x => exact .inl ⟨x, rfl⟩
  | ref a => right; simp only [isA] at e ⊢; split at e <;> simp at e ⊢
  | ty n => cases e
  | fn n => cases e
  | _ => exact .inr rfl
theorem isRule_no {t : D} (h : ∀ k a b, t ≠ .tup [.str k, a, b]) : isRule t = false := by
  unfold isRule
  split
  · rename_i k a b
    exact absurd rfl (h k a b)
  · rfl
theorem bounds_int (k : Tx) : k_BOUNDS k = none ∨ ∃ m, k_BOUNDS k = some (.int m) := by
  unfold k_BOUNDS
  split
  · exact .inr ⟨_, rfl⟩
  · split
    · exact .inr ⟨_, rfl⟩
    · split
      · exact .inr ⟨_, rfl⟩
      · split
        · exact .inr ⟨_, rfl⟩
        · exact .inl rfl
theorem within_int {t : D} {a b : Int} (e : within t a b = true) : ∃ i, t = .int i := by
  cases t with
  | int i => exact ⟨i, rfl⟩
  | _ => cases e
theorem ok_is_rule (ds : List D) (h : DHp) (Q : DK) (E : DX) (hn : ds.length = 1) (q : sp_is_rule ds h Q E) : m_is_rule (endsD Q E) (startD N_is_rule ds) h := by
  match ds, q with
  | [t], ⟨pl, ps, q⟩ =>
    rcases plain_ty pl with ⟨xs, rfl⟩ | e
    · have pp := ps xs rfl
      simp only [m_is_rule, st_is_rule, forall_const, true_implies, false_implies, implies_true, and_true, true_and, reduceCtorEq, Bool.not_true, Bool.not_false, Bool.true_xor, Bool.false_xor, Option.some.injEq, exists_eq_left', put_same, onB_bl, dSeq, dNext, dBreak, dDrop, dRet, dRetN, dIfS, dName, dgNil, dgCons, dgTup, dAsg, dPar, dPar3, dSetI, dgSub, dRaise, dVar, dC, dOp, dTest, dAnd, dOr, dNot, dAndV, dOrV, dNotV, dIf, dNil, dCons, dTup, dLst, dCall, dCB, dMt, dMt0, dInC, dIxC, dChain, dNeg, dNoPart, dPart, dSl, exE, dIsA, dCat, catchD, subE, Ex.ix, endsD, dLc, dISeq, dIRng1, dIRng2, dIEnum, dFor, dDcT, dDcK, dCallV, mStarts_str, List.getElem?_cons_zero, List.getElem?_cons_succ, List.set_cons_zero, List.set_cons_succ, onL_lst, isA_non, isA_int_int, isA_bool_int, isA_str_int, isA_tup_int, isA_lst_int, isA_int_str, isA_bool_str, isA_str_str, isA_tup_str, isA_lst_str, isA_int_tup, isA_bool_tup, isA_str_tup, isA_tup_tup, isA_lst_tup, isA_int_bl, isA_bool_bl, isA_str_bl, isA_tup_bl, isA_lst_bl, dAdd_int, dAdd_str, dAdd_tup, dAdd_ref, dSub_int, dLt_int, dLe_int, dGt_int, dGe_int, dMul_int, dMul_str, dMul_ref, dMod_int, dFdiv_int, dPow_int, dIsN_, dNotN_, isNon_int, isNon_non, dEq_str, dEq_int, dNe_str, dNe_int, dIn_sign, dIx_str, dIx_tup, dIx_scr, dIx_ref, dCut_str, dCut_tup, dCut_scr, dCut_ref, bLen_str, bLen_tup, bLen_ref, bInt_int, bInt_bl, bTup_tup, bTup_ref, bList_str, bList_tup, bList_ref, tyD_str, mAppend_ref, mExtend_ref, tyL, dSetL_ref, mJoin_ref, bMin_ref, bMax_ref, atI_0, atI_1, atI_2]
      by_cases hl : xs.length = 3
      · obtain ⟨k, a, b, rfl⟩ : ∃ k a b, xs = [k, a, b] := by
          match xs, hl with
          | [k, a, b], _ => exact ⟨k, a, b, rfl⟩
        refine ⟨fun z => by simp at z, fun _ => ⟨k, atI_0, ?_⟩⟩
        rcases plain_str (pp k (by simp)) with ⟨kk, rfl⟩ | e
        · refine ⟨true, rfl, (fun z => by cases z), fun _ => ⟨_, atI_0, ?_⟩⟩
          show ((!(k_BOUNDS kk).isSome) = true → _) ∧ _
          rcases bounds_int kk with hk | ⟨m, hk⟩
          · have z : isRule (.tup [.str kk, a, b]) = false := by simp [isRule, hk]
            rw [z] at q
            exact ⟨fun _ => fgt_here q, fun z => by simp [hk] at z⟩
          · refine ⟨fun z => by simp [hk] at z, fun _ => ⟨b, atI_2, _, atI_0, .int m, hk, rfl, pp b (by simp), ?_⟩⟩
            show (within b 0 m = true → _) ∧ _
            refine ⟨fun hb => ⟨a, atI_1, b, atI_2, rfl, ?_⟩, fun hb => ?_⟩
            · obtain ⟨m', rfl⟩ := within_int hb
              have z : isRule (.tup [.str kk, a, .int m']) = within a 0 m' := by simp [isRule, hk, hb]
              rw [z] at q
              exact ⟨pp a (by simp), fgt_here q⟩
            · have z : isRule (.tup [.str kk, a, b]) = false := by simp [isRule, hk, hb]
              rw [z] at q
              exact fgt_here q
        · have z : isRule (.tup [k, a, b]) = false := isRule_no fun k a b z => by cases z; simp [isA] at e
          rw [z] at q
          exact ⟨false, e, fun _ => fgt_here q, (fun z => by cases z)⟩
      · have z : isRule (.tup xs) = false := isRule_no fun k a b z => by cases z; exact hl rfl
        rw [z] at q
        exact ⟨fun _ => fgt_here q, fun z => absurd (by simp at z; omega) hl⟩
    · have z : isRule t = false := isRule_no fun k a b z => by subst z; simp [isA] at e
      rw [z] at q
      simp only [m_is_rule, st_is_rule, forall_const, true_implies, false_implies, implies_true, and_true, true_and, reduceCtorEq, Bool.not_true, Bool.not_false, Bool.true_xor, Bool.false_xor, Option.some.injEq, exists_eq_left', put_same, onB_bl, dSeq, dNext, dBreak, dDrop, dRet, dRetN, dIfS, dName, dgNil, dgCons, dgTup, dAsg, dPar, dPar3, dSetI, dgSub, dRaise, dVar, dC, dOp, dTest, dAnd, dOr, dNot, dAndV, dOrV, dNotV, dIf, dNil, dCons, dTup, dLst, dCall, dCB, dMt, dMt0, dInC, dIxC, dChain, dNeg, dNoPart, dPart, dSl, exE, dIsA, dCat, catchD, subE, Ex.ix, endsD, dLc, dISeq, dIRng1, dIRng2, dIEnum, dFor, dDcT, dDcK, dCallV, mStarts_str, List.getElem?_cons_zero, List.getElem?_cons_succ, List.set_cons_zero, List.set_cons_succ, onL_lst, isA_non, isA_int_int, isA_bool_int, isA_str_int, isA_tup_int, isA_lst_int, isA_int_str, isA_bool_str, isA_str_str, isA_tup_str, isA_lst_str, isA_int_tup, isA_bool_tup, isA_str_tup, isA_tup_tup, isA_lst_tup, isA_int_bl, isA_bool_bl, isA_str_bl, isA_tup_bl, isA_lst_bl, dAdd_int, dAdd_str, dAdd_tup, dAdd_ref, dSub_int, dLt_int, dLe_int, dGt_int, dGe_int, dMul_int, dMul_str, dMul_ref, dMod_int, dFdiv_int, dPow_int, dIsN_, dNotN_, isNon_int, isNon_non, dEq_str, dEq_int, dNe_str, dNe_int, dIn_sign, dIx_str, dIx_tup, dIx_scr, dIx_ref, dCut_str, dCut_tup, dCut_scr, dCut_ref, bLen_str, bLen_tup, bLen_ref, bInt_int, bInt_bl, bTup_tup, bTup_ref, bList_str, bList_tup, bList_ref, tyD_str, mAppend_ref, mExtend_ref, tyL, dSetL_ref, mJoin_ref, bMin_ref, bMax_ref, atI_0, atI_1, atI_2, e]
      exact fgt_here q
/-! ### tears -/
/-- a word torn at n, m signs -/
def tearW (k x : Tx) (n m : Nat) : Tx := x.take n ++ (if k = kF then List.replicate m 63 else if k = kO then [42] else if k = kC then [] else (x.drop n).take m ++ (x.drop n).take m) ++ x.drop (n + m)
theorem cut_take {x : Tx} {n : Nat} (h : n ≤ x.length) : cutD x none (some (n : Int)) = x.take n := by
  unfold cutD
  rw [HT.sIx_none, HT.sIx_nat, Nat.min_eq_left h]
  simp
theorem cut_drop {x : Tx} {n : Nat} (h : n ≤ x.length) : cutD x (some (n : Int)) none = x.drop n := by
  unfold cutD
  rw [HT.sIx_none, HT.sIx_nat, Nat.min_eq_left h]
  exact List.take_of_length_le (by rw [List.length_drop]; exact Nat.le_refl _)
theorem cut_mid {x : Tx} {n m : Nat} (h : n + m ≤ x.length) : cutD x (some (n : Int)) (some ((n + m : Nat) : Int)) = (x.drop n).take m := by
  unfold cutD
  rw [HT.sIx_nat, HT.sIx_nat, Nat.min_eq_left (show n ≤ x.length by omega), Nat.min_eq_left h]
  congr 1
  omega
theorem repD_one {α : Type} (m : Nat) (c : α) : repD m [c] = List.replicate m c := by
  unfold repD
  induction m with
  | zero => rfl
  | succ m ih => rw [List.replicate_succ, List.flatten_cons, ih]; rfl
def sp_raw_tear : SpD := fun ds h Q _ => match ds with
  | [.str k, .str x, .int n, .int m] => ∃ n' m' : Nat, n = n' ∧ m = m' ∧ n' + m' ≤ x.length ∧ x.length ≤ 10000 ∧ Q (.str (tearW k x n' m')) h
  | _ => False
/-- raw_tear(kind, word, at, size); slots: kind 0, word 1, at 2, size 3, ahead 4, stretch 5, behind 6 -/
def N_raw_tear : List Str := ["kind", "word", "at", "size", "ahead", "stretch", "behind"]
def m_raw_tear : MS := dSeq (dPar3 4 5 6 (dCons (dSl (dVar 1) (dNoPart) (dPart (dVar 2))) (dCons (dSl (dVar 1) (dPart (dVar 2)) (dPart (dOp dAdd (dVar 2) (dVar 3)))) (dCons (dSl (dVar 1) (dPart (dOp dAdd (dVar 2) (dVar 3))) (dNoPart)) (dNil))))) (dSeq (dIfS (dTest (dOp dEq (dVar 0) (dC (.str [102, 97, 100, 101, 100])))) (dRet (dOp dAdd (dOp dAdd (dVar 4) (dOp dMul (dC (.str [63])) (dVar 3))) (dVar 6))) (dNext)) (dSeq (dIfS (dTest (dOp dEq (dVar 0) (dC (.str [111, 112, 101, 110])))) (dRet (dOp dAdd (dOp dAdd (dVar 4) (dC (.str [42]))) (dVar 6))) (dNext)) (dRet (dIf (dTest (dOp dEq (dVar 0) (dC (.str [99, 108, 111, 115, 101, 100])))) (dOp dAdd (dVar 4) (dVar 6)) (dOp dAdd (dOp dAdd (dOp dAdd (dVar 4) (dVar 5)) (dVar 5)) (dVar 6))))))
theorem st_raw_tear (a0 a1 a2 a3 : D) : startD N_raw_tear [a0, a1, a2, a3] = [some a0, some a1, some a2, some a3, none, none, none] := rfl
theorem ok_raw_tear (ds : List D) (h : DHp) (Q : DK) (E : DX) (hn : ds.length = 4) (q : sp_raw_tear ds h Q E) : m_raw_tear (endsD Q E) (startD N_raw_tear ds) h := by
  match ds, q with
  | [.str k, .str x, .int n, .int m], q =>
    obtain ⟨n', m', rfl, rfl, h1, h2, q⟩ := q
    have hs := sizeLine_eq
    simp only [m_raw_tear, st_raw_tear, forall_const, true_implies, false_implies, implies_true, and_true, true_and, reduceCtorEq, Bool.not_true, Bool.not_false, Bool.true_xor, Bool.false_xor, Option.some.injEq, exists_eq_left', put_same, onB_bl, dSeq, dNext, dBreak, dDrop, dRet, dRetN, dIfS, dName, dgNil, dgCons, dgTup, dAsg, dPar, dPar3, dSetI, dgSub, dRaise, dVar, dC, dOp, dTest, dAnd, dOr, dNot, dAndV, dOrV, dNotV, dIf, dNil, dCons, dTup, dLst, dCall, dCB, dMt, dMt0, dInC, dIxC, dChain, dNeg, dNoPart, dPart, dSl, exE, dIsA, dCat, catchD, subE, Ex.ix, endsD, dLc, dISeq, dIRng1, dIRng2, dIEnum, dFor, dDcT, dDcK, dCallV, mStarts_str, List.getElem?_cons_zero, List.getElem?_cons_succ, List.set_cons_zero, List.set_cons_succ, onL_lst, isA_non, isA_int_int, isA_bool_int, isA_str_int, isA_tup_int, isA_lst_int, isA_int_str, isA_bool_str, isA_str_str, isA_tup_str, isA_lst_str, isA_int_tup, isA_bool_tup, isA_str_tup, isA_tup_tup, isA_lst_tup, isA_int_bl, isA_bool_bl, isA_str_bl, isA_tup_bl, isA_lst_bl, dAdd_int, dAdd_str, dAdd_tup, dAdd_ref, dSub_int, dLt_int, dLe_int, dGt_int, dGe_int, dMul_int, dMul_str, dMul_ref, dMod_int, dFdiv_int, dPow_int, dIsN_, dNotN_, isNon_int, isNon_non, dEq_str, dEq_int, dNe_str, dNe_int, dIn_sign, dIx_str, dIx_tup, dIx_scr, dIx_ref, dCut_str, dCut_tup, dCut_scr, dCut_ref, bLen_str, bLen_tup, bLen_ref, bInt_int, bInt_bl, bTup_tup, bTup_ref, bList_str, bList_tup, bList_ref, tyD_str, mAppend_ref, mExtend_ref, tyL, dSetL_ref, mJoin_ref, bMin_ref, bMax_ref, atI_0, atI_1, atI_2, ← Int.natCast_add, cut_take (show n' ≤ x.length by omega), cut_drop h1, cut_mid h1, Int.toNat_natCast, repD_one]
    have l1 : (x.take n').length = n' := by rw [List.length_take]; omega
    have l2 : (x.drop (n' + m')).length ≤ 10000 := by rw [List.length_drop]; omega
    have l3 : ((x.drop n').take m').length = m' := by rw [List.length_take, List.length_drop]; omega
    refine ⟨by omega, by omega, by omega, fun hk => ?_, fun hk => ⟨fun hk2 => ?_, fun hk2 => ⟨fun hk3 => ?_, fun hk3 => ?_⟩⟩⟩
    · have e : k = kF := by simpa using hk
      subst e
      refine ⟨⟨by omega, by omega, by simp; omega⟩, by simp; omega, by simp; omega, fgt_here ?_⟩
      simpa [tearW] using q
    · have e : k = kO := by simpa using hk2
      subst e
      refine ⟨by simp; omega, by simp; omega, fgt_here ?_⟩
      simpa [tearW] using q
    · have e : k = kC := by simpa using hk3
      subst e
      refine ⟨by simp; omega, fgt_here ?_⟩
      simpa [tearW] using q
    · have e1 : k ≠ kF := by simpa using hk
      have e2 : k ≠ kO := by simpa using hk2
      have e3 : k ≠ kC := by simpa using hk3
      refine ⟨by simp; omega, by simp; omega, by simp; omega, fgt_here ?_⟩
      simpa [tearW, e1, e2, e3] using q
abbrev SMALL : Tx := [97, 98, 99, 100, 101, 102, 103, 104, 105, 106, 107, 108, 109, 110, 111, 112, 113, 114, 115, 116, 117, 118, 119, 120, 121, 122]
/-- may m signs be torn at n? -/
def spot (n m : D) (x : Tx) (a b : Int) : Bool := within n 0 x.length && (within m a b && (match n, m with
  | .int i, .int j => decide (i + j ≤ x.length)
  | _, _ => false))
def natD (n : D) : Nat := match n with
  | .int i => i.toNat
  | _ => 0
theorem plain_i {i : Int} {h : DHp} : Plain (.int i) h := fun t => by cases t <;> exact ⟨_, rfl⟩
theorem plain_s {x : Tx} {h : DHp} : Plain (.str x) h := fun t => by cases t <;> exact ⟨_, rfl⟩
theorem plain_t {xs : List D} {h : DHp} : Plain (.tup xs) h := fun t => by cases t <;> exact ⟨_, rfl⟩
theorem plain_n {h : DHp} : Plain .non h := fun t => by cases t <;> exact ⟨_, rfl⟩
theorem plain_b {b : Bool} {h : DHp} : Plain (.bl b) h := fun t => by cases t <;> exact ⟨_, rfl⟩
theorem rule_parts {k : Tx} {a b : Int} {h : DHp} : ∀ xs, D.tup [.str k, .int a, .int b] = .tup xs → ∀ x ∈ xs, Plain x h := by
  rintro xs e x hx
  cases e
  simp only [List.mem_cons, List.mem_nil_iff, or_false] at hx
  rcases hx with rfl | rfl | rfl
  · exact plain_s
  · exact plain_i
  · exact plain_i
theorem isText_str {t : D} {l : Tx} (e : isText t l = true) : ∃ x, t = .str x ∧ x.length ≤ 200 ∧ madeOf x l = true := by
  cases t with
  | str x =>
    simp only [isText, Bool.and_eq_true, decide_eq_true_eq] at e
    exact ⟨x, rfl, e⟩
  | _ => cases e
theorem rule_lo {k : Tx} {a b : Int} (hr : isRule (.tup [.str k, .int a, .int b]) = true) : 0 ≤ a ∧ a ≤ b ∧ b ≤ 3 := by
  simp only [isRule] at hr
  have hb : ∀ m, k_BOUNDS k = some (.int m) → m ≤ 3 := by
    intro m e
    unfold k_BOUNDS at e
    split at e
    · cases e; omega
    · split at e
      · cases e; omega
      · split at e
        · cases e; omega
        · split at e
          · cases e; omega
          · cases e
  rcases bounds_int k with e | ⟨m, e⟩
  · simp [e] at hr
  · simp only [e, within, Bool.and_eq_true, decide_eq_true_eq] at hr
    have := hb m e
    omega
/-! ### in order -/
theorem forB_inv {g : MG} {t : MS} {DD : DEnds} {δ : DSt} {ds : List D} {ok : DHp → Prop} {h : DHp} (V : Nat → DSt → DHp → Prop) (v0 : V 0 δ h) (hok : ∀ i δ h, V i δ h → ok h) (hend : ∀ δ h, V ds.length δ h → DD.nx δ h)
    (step : ∀ i d δ h, ds[i]? = some d → V i δ h → g d δ h (fun δ2 h2 => t { DD with nx := V (i + 1), ct := V (i + 1), bk := DD.nx } δ2 h2)) : ForB g t DD δ ds ok h :=
  ⟨V, v0, fun i δ h v => ⟨hok i δ h v, fun e => hend δ h (e ▸ v), fun d hd => step i d δ h hd v⟩⟩
theorem patB_nm {i : Nat} {d : D} {δ : DSt} : patB (.nm i) d δ = some (δ.set i (some d)) := by simp [patB]
def sp_in_order : SpD := fun ds h Q _ => match ds with
  | [.ref a] => ∃ ws : List Tx, h a = some (.lst (ws.map D.str)) ∧ ws.length ≤ 1000000 ∧ (∀ w ∈ ws, w.length ≤ 10000) ∧ ∀ r, h r = none → Q (.ref r) (put h r (.lst ((inOrder ws).map D.str)))
  | _ => False
/-- in_order(words); slots: words 0, size 1, word 2 -/
def N_in_order : List Str := ["words", "size", "word"]
def m_in_order : MS := dRet (dLc (dISeq (dCB bSorted (dCons (dDcT (dISeq (dVar 0)) (.nm 2) (dYes) (dTup (dCons (dCB bLen (dCons (dVar 2) (dNil))) (dCons (dVar 2) (dNil)))) (dC (.bl true)) [2]) (dNil)))) (.tup [.nm 1, .nm 2]) (dYes) (dVar 2) [1, 2])
theorem st_in_order (a0 : D) : startD N_in_order [a0] = [some a0, none, none] := rfl
theorem less_put_put {h : DHp} {r q : Addr} {o u : DO} (nr : h r = none) (nq : put h r o q = none) : Less (put h q u) (put (put h r o) q u) := fun a x e => by
  by_cases z : a = q
  · subst z; rw [put_same] at e ⊢; exact e
  · rw [put_ne z] at e ⊢
    exact Less.put nr a x e
theorem ok_in_order (ds : List D) (h : DHp) (Q : DK) (E : DX) (hn : ds.length = 1) (q : sp_in_order ds h Q E) : m_in_order (endsD Q E) (startD N_in_order ds) h := by
  match ds, q with
  | [.ref a], ⟨ws, ea, hz, hw, q⟩ =>
    have hs := sizeLine_eq
    simp only [m_in_order, st_in_order, forall_const, true_implies, false_implies, implies_true, and_true, true_and, reduceCtorEq, Bool.not_true, Bool.not_false, Bool.true_xor, Bool.false_xor, Option.some.injEq, exists_eq_left', put_same, onB_bl, dSeq, dNext, dBreak, dDrop, dRet, dRetN, dIfS, dName, dgNil, dgCons, dgTup, dAsg, dPar, dPar3, dSetI, dgSub, dRaise, dVar, dC, dOp, dTest, dAnd, dOr, dNot, dAndV, dOrV, dNotV, dIf, dNil, dCons, dTup, dLst, dCall, dCB, dMt, dMt0, dInC, dIxC, dChain, dNeg, dNoPart, dPart, dSl, exE, dIsA, dCat, catchD, subE, Ex.ix, endsD, dLc, dISeq, dIRng1, dIRng2, dIEnum, dFor, dDcT, dDcK, dCallV, mStarts_str, List.getElem?_cons_zero, List.getElem?_cons_succ, List.set_cons_zero, List.set_cons_succ, onL_lst, isA_non, isA_int_int, isA_bool_int, isA_str_int, isA_tup_int, isA_lst_int, isA_int_str, isA_bool_str, isA_str_str, isA_tup_str, isA_lst_str, isA_int_tup, isA_bool_tup, isA_str_tup, isA_tup_tup, isA_lst_tup, isA_int_bl, isA_bool_bl, isA_str_bl, isA_tup_bl, isA_lst_bl, dAdd_int, dAdd_str, dAdd_tup, dAdd_ref, dSub_int, dLt_int, dLe_int, dGt_int, dGe_int, dMul_int, dMul_str, dMul_ref, dMod_int, dFdiv_int, dPow_int, dIsN_, dNotN_, isNon_int, isNon_non, dEq_str, dEq_int, dNe_str, dNe_int, dIn_sign, dIx_str, dIx_tup, dIx_scr, dIx_ref, dCut_str, dCut_tup, dCut_scr, dCut_ref, bLen_str, bLen_tup, bLen_ref, bInt_int, bInt_bl, bTup_tup, bTup_ref, bList_str, bList_tup, bList_ref, tyD_str, mAppend_ref, mExtend_ref, tyL, dSetL_ref, mJoin_ref, bMin_ref, bMax_ref, atI_0, atI_1, atI_2, ea]
    refine dcB_map (fun d => match d with | .str x => keyT x | _ => []) (fun _ => .bl true) ea (by rw [List.length_map]; omega) (fun d hd => ?_) fun r nr => ?_
    · obtain ⟨x, hx, rfl⟩ := List.mem_map.mp hd
      refine ⟨okKey_T x, _, rfl, fun K k => ?_, fun K k => k⟩
      show x.length ≤ sizeLine ∧ _
      have := hw x hx
      exact ⟨by omega, by show (2 : Nat) ≤ sizeLine; omega, k⟩
    · have e1 : ((ws.map D.str).map fun d => ((match d with | .str x => keyT x | _ => [] : List D), D.bl true)) = ws.map fun x => (keyT x, D.bl true) := by rw [List.map_map]; rfl
      rw [e1]
      have e2 := putTs_nub ws []
      rw [List.map_nil] at e2
      rw [e2]
      have e3 : (ws.foldl (fun a x => if x ∈ a then a else a ++ [x]) []) = nub ws := rfl
      rw [e3]
      have hlen : (nub ws).length ≤ 1000000 := by
        have h1 : (nub ws).length ≤ ws.length := by
          have := putTs_len (ws.map fun x => (keyT x, D.bl true)) []
          rw [e2, e3, List.length_map, List.length_map] at this
          simpa using this
        omega
      refine ⟨(nub ws).map fun x => .tup (keyT x), (nub ws).map keyW, by simp [sortItems, put_same, List.map_map, Function.comp_def], pya_keys _, alike_W _, sortable_W _, depth_W _, by rw [List.length_map]; omega, fun p np => ?_⟩
      rw [sortD_W]
      have e4 : put (put h r (.dth ((nub ws).map fun x => (keyT x, D.bl true)))) p (.lst (((nub ws).mergeSort leW).map fun x => .tup (keyT x))) p = some (.lst ((inOrder ws).map fun x => .tup (keyT x))) := put_same
      simp only [e4]
      have hl2 : (inOrder ws).length ≤ 1000000 := by
        unfold inOrder
        rw [(List.mergeSort_perm (nub ws) leW).length_eq]
        exact hlen
      refine lcB_map (fun d => match d with | .tup [_, w] => w | _ => .non) e4 (by rw [List.length_map]; omega) (fun d hd => ?_) fun u nu => ?_
      · obtain ⟨x, hx, rfl⟩ := List.mem_map.mp hd
        exact ⟨_, rfl, fun K k => k⟩
      · have e5 : (((inOrder ws).map fun x => D.tup (keyT x)).map fun d => (match d with | .tup [_, w] => w | _ => D.non)) = (inOrder ws).map D.str := by rw [List.map_map]; rfl
        rw [e5]
        have n1 : h u = none := by
          by_cases z1 : u = p
          · subst z1; rw [put_same] at nu; cases nu
          · rw [put_ne z1] at nu
            by_cases z2 : u = r
            · subst z2; rw [put_same] at nu; cases nu
            · rw [put_ne z2] at nu; exact nu
        refine ⟨put h u (.lst ((inOrder ws).map D.str)), ?_, q u n1⟩
        intro b x e
        by_cases z : b = u
        · subst z; rw [put_same] at e ⊢; exact e
        · rw [put_ne z] at e ⊢
          exact Less.put np b x (Less.put nr b x e)
/-! ### readings -/
/-- all tears with sizes from a to b, as they come -/
def tearsN (k x : Tx) (m : Nat) : List Tx := (List.range (x.length + 1 - m)).map fun n => tearW k x n m
def tearsL (k x : Tx) (a n : Nat) : List Tx := ((List.range n).map fun i => tearsN k x (a + i)).flatten
theorem tearsL_succ (k x : Tx) (a n : Nat) : tearsL k x a (n + 1) = tearsL k x a n ++ tearsN k x (a + n) := by
  unfold tearsL
  rw [List.range_succ, List.map_append, List.flatten_append]
  simp
theorem tearW_len {k x : Tx} {n m : Nat} (h : n + m ≤ x.length) (h1 : 1 ≤ x.length ∨ True) : (tearW k x n m).length ≤ 2 * x.length + 1 := by
  unfold tearW
  split
  · simp <;> omega
  · split
    · simp <;> omega
    · split
      · simp <;> omega
      · simp <;> omega
theorem tearsL_len {k x : Tx} {a : Nat} : ∀ n, (tearsL k x a n).length ≤ n * (x.length + 1)
  | 0 => by simp [tearsL]
  | n + 1 => by
    rw [tearsL_succ, List.length_append]
    have := tearsL_len (k := k) (x := x) (a := a) n
    have h2 : (tearsN k x (a + n)).length ≤ x.length + 1 := by unfold tearsN; rw [List.length_map, List.length_range]; omega
    rw [Nat.succ_mul]
    omega
theorem tearsN_mem {k x : Tx} {m : Nat} {w : Tx} (h : w ∈ tearsN k x m) : ∃ n, n + m ≤ x.length ∧ w = tearW k x n m := by
  unfold tearsN at h
  obtain ⟨n, hn, e⟩ := List.mem_map.mp h
  have hn : n < x.length + 1 - m := by simpa using hn
  exact ⟨n, by omega, e.symm⟩
theorem tearsL_mem {k x : Tx} {a n : Nat} {w : Tx} (h : w ∈ tearsL k x a n) : ∃ i m, i < n ∧ m + (a + i) ≤ x.length ∧ w = tearW k x m (a + i) := by
  unfold tearsL at h
  rw [List.mem_flatten] at h
  obtain ⟨l, hl, hw⟩ := h
  obtain ⟨i, hi, e⟩ := List.mem_map.mp hl
  subst e
  obtain ⟨m, h1, h2⟩ := tearsN_mem hw
  exact ⟨i, m, by simpa using hi, h1, h2⟩
theorem tearsL_iff {k x : Tx} {a n : Nat} {w : Tx} : w ∈ tearsL k x a n ↔ ∃ i m, i < n ∧ m + (a + i) ≤ x.length ∧ w = tearW k x m (a + i) := by
  refine ⟨tearsL_mem, ?_⟩
  rintro ⟨i, m, h1, h2, rfl⟩
  unfold tearsL tearsN
  rw [List.mem_flatten]
  exact ⟨_, List.mem_map.mpr ⟨i, by simpa using h1, rfl⟩, List.mem_map.mpr ⟨m, by simp; omega, rfl⟩⟩
def readW (k x : Tx) (a b : Nat) : List Tx := inOrder (tearsL k x a (b + 1 - a))
def sp_raw_readings : SpD := fun ds h Q _ => match ds with
  | [.tup [.str k, .int a, .int b], .str x] => 0 ≤ a ∧ a ≤ b ∧ b ≤ 3 ∧ x.length ≤ 1000 ∧ ∀ r, h r = none → Q (.ref r) (put h r (.lst ((readW k x a.toNat b.toNat).map D.str)))
  | _ => False
/-- raw_readings(rule, word); slots: rule 0, word 1, found 2, size 3, kind 4, least 5, most 6, at 7 -/
def N_raw_readings : List Str := ["rule", "word", "found", "size", "kind", "least", "most", "at"]
def m_raw_readings : MS := dSeq (dAsg (dVar 0) (dgTup 3 (dgCons (dName 4) (dgCons (dName 5) (dgCons (dName 6) (dgNil)))))) (dSeq (dAsg (dLst (dNil)) (dName 2)) (dSeq (dFor (dIRng2 (dCons (dVar 5) (dCons (dOp dAdd (dCB bMin (dCons (dLst (dCons (dVar 6) (dCons (dCB bLen (dCons (dVar 1) (dNil))) (dNil)))) (dNil))) (dC (.int 1))) (dNil)))) (dName 3) (dDrop (dMt "list" mExtend (dVar 2) (dCons (dLc (dIRng1 (dCons (dOp dAdd (dOp dSub (dCB bLen (dCons (dVar 1) (dNil))) (dVar 3)) (dC (.int 1))) (dNil))) (.nm 7) (dYes) (dCall 4 sp_raw_tear (dCons (dVar 4) (dCons (dVar 1) (dCons (dVar 7) (dCons (dVar 3) (dNil)))))) [7]) (dNil))))) (dRet (dCall 1 sp_in_order (dCons (dVar 2) (dNil))))))
theorem st_raw_readings (a0 a1 : D) : startD N_raw_readings [a0, a1] = [some a0, some a1, none, none, none, none, none, none] := rfl
theorem ok_raw_readings (ds : List D) (h : DHp) (Q : DK) (E : DX) (hn : ds.length = 2) (q : sp_raw_readings ds h Q E) : m_raw_readings (endsD Q E) (startD N_raw_readings ds) h := by
  match ds, q with
  | [.tup [.str k, .int a, .int b], .str x], ⟨h1, h2, h3, hx, q⟩ =>
    have hs := sizeLine_eq
    simp only [m_raw_readings, st_raw_readings, forall_const, true_implies, false_implies, implies_true, and_true, true_and, reduceCtorEq, Bool.not_true, Bool.not_false, Bool.true_xor, Bool.false_xor, Option.some.injEq, exists_eq_left', put_same, onB_bl, dSeq, dNext, dBreak, dDrop, dRet, dRetN, dIfS, dName, dgNil, dgCons, dgTup, dAsg, dPar, dPar3, dSetI, dgSub, dRaise, dVar, dC, dOp, dTest, dAnd, dOr, dNot, dAndV, dOrV, dNotV, dIf, dNil, dCons, dTup, dLst, dCall, dCB, dMt, dMt0, dInC, dIxC, dChain, dNeg, dNoPart, dPart, dSl, exE, dIsA, dCat, catchD, subE, Ex.ix, endsD, dLc, dISeq, dIRng1, dIRng2, dIEnum, dFor, dDcT, dDcK, dCallV, mStarts_str, List.getElem?_cons_zero, List.getElem?_cons_succ, List.set_cons_zero, List.set_cons_succ, onL_lst, isA_non, isA_int_int, isA_bool_int, isA_str_int, isA_tup_int, isA_lst_int, isA_int_str, isA_bool_str, isA_str_str, isA_tup_str, isA_lst_str, isA_int_tup, isA_bool_tup, isA_str_tup, isA_tup_tup, isA_lst_tup, isA_int_bl, isA_bool_bl, isA_str_bl, isA_tup_bl, isA_lst_bl, dAdd_int, dAdd_str, dAdd_tup, dAdd_ref, dSub_int, dLt_int, dLe_int, dGt_int, dGe_int, dMul_int, dMul_str, dMul_ref, dMod_int, dFdiv_int, dPow_int, dIsN_, dNotN_, isNon_int, isNon_non, dEq_str, dEq_int, dNe_str, dNe_int, dIn_sign, dIx_str, dIx_tup, dIx_scr, dIx_ref, dCut_str, dCut_tup, dCut_scr, dCut_ref, bLen_str, bLen_tup, bLen_ref, bInt_int, bInt_bl, bTup_tup, bTup_ref, bList_str, bList_tup, bList_ref, tyD_str, mAppend_ref, mExtend_ref, tyL, dSetL_ref, mJoin_ref, bMin_ref, bMax_ref, atI_0, atI_1, atI_2]
    refine ⟨rfl, by show (0 : Nat) ≤ sizeLine; omega, fun p np => ⟨by omega, by show (2 : Nat) ≤ sizeLine; omega, fun p1 np1 => ?_⟩⟩
    generalize eh : put (put h p (.lst [])) p1 (.lst [.int b, .int x.length]) = g
    have ne : p ≠ p1 := fun z => by subst z; rw [put_same] at np1; cases np1
    have gp : g p = some (.lst []) := by rw [← eh, put_ne ne, put_same]
    have g1 : g p1 = some (.lst [.int b, .int x.length]) := by rw [← eh, put_same]
    have lg : Less h g := by rw [← eh]; exact less_new (less_new Less.refl np) np1
    refine ⟨[b, (x.length : Int)], rfl, by simp, ?_⟩
    simp only [minI]
    refine ⟨by omega, ?_⟩
    generalize en : (min b (x.length : Int) + 1 - a).toNat = n
    refine forB_inv (fun i δ h' => i ≤ n ∧ (∃ sz, δ = [some (.tup [.str k, .int a, .int b]), some (.str x), some (.ref p), sz, some (.str k), some (.int a), some (.int b), none]) ∧ Less h h' ∧ h' p = some (.lst ((tearsL k x a.toNat i).map D.str)))
      ⟨Nat.zero_le _, ⟨_, rfl⟩, lg, gp⟩ (fun _ _ _ _ => True.intro) ?_ ?_
    · rintro δ h' ⟨_, ⟨sz, rfl⟩, l, hp⟩
      rw [rngD_len] at hp
      have e : tearsL k x a.toNat n = tearsL k x a.toNat n := rfl
      show [D.ref p].length = 1 ∧ ∃ ws, _
      refine ⟨rfl, tearsL k x a.toNat n, hp, ?_, ?_, fun r nr => ?_⟩
      · have := tearsL_len (k := k) (x := x) (a := a.toNat) n
        have hn4 : n ≤ 4 := by omega
        have : n * (x.length + 1) ≤ 4 * 1001 := Nat.mul_le_mul hn4 (by omega)
        omega
      · intro w hw
        obtain ⟨i, m, _, h5, rfl⟩ := tearsL_mem hw
        have := tearW_len (k := k) h5 (.inr True.intro)
        omega
      · have er : inOrder (tearsL k x a.toNat n) = readW k x a.toNat b.toNat := by
          unfold readW
          refine inOrder_congr fun z => ?_
          rw [tearsL_iff, tearsL_iff]
          constructor
          · rintro ⟨i, m, h5, h6, e⟩; exact ⟨i, m, by omega, h6, e⟩
          · rintro ⟨i, m, h5, h6, e⟩; exact ⟨i, m, by omega, h6, e⟩
        rw [er]
        exact fgt_new l nr q
    · rintro i d δ h' hd ⟨hi, ⟨sz, rfl⟩, l, hp⟩
      obtain ⟨hin, rfl⟩ := rngD_get hd
      simp only [forall_const, true_implies, false_implies, implies_true, and_true, true_and, reduceCtorEq, Bool.not_true, Bool.not_false, Bool.true_xor, Bool.false_xor, Option.some.injEq, exists_eq_left', put_same, onB_bl, dSeq, dNext, dBreak, dDrop, dRet, dRetN, dIfS, dName, dgNil, dgCons, dgTup, dAsg, dPar, dPar3, dSetI, dgSub, dRaise, dVar, dC, dOp, dTest, dAnd, dOr, dNot, dAndV, dOrV, dNotV, dIf, dNil, dCons, dTup, dLst, dCall, dCB, dMt, dMt0, dInC, dIxC, dChain, dNeg, dNoPart, dPart, dSl, exE, dIsA, dCat, catchD, subE, Ex.ix, endsD, dLc, dISeq, dIRng1, dIRng2, dIEnum, dFor, dDcT, dDcK, dCallV, mStarts_str, List.getElem?_cons_zero, List.getElem?_cons_succ, List.set_cons_zero, List.set_cons_succ, onL_lst, isA_non, isA_int_int, isA_bool_int, isA_str_int, isA_tup_int, isA_lst_int, isA_int_str, isA_bool_str, isA_str_str, isA_tup_str, isA_lst_str, isA_int_tup, isA_bool_tup, isA_str_tup, isA_tup_tup, isA_lst_tup, isA_int_bl, isA_bool_bl, isA_str_bl, isA_tup_bl, isA_lst_bl, dAdd_int, dAdd_str, dAdd_tup, dAdd_ref, dSub_int, dLt_int, dLe_int, dGt_int, dGe_int, dMul_int, dMul_str, dMul_ref, dMod_int, dFdiv_int, dPow_int, dIsN_, dNotN_, isNon_int, isNon_non, dEq_str, dEq_int, dNe_str, dNe_int, dIn_sign, dIx_str, dIx_tup, dIx_scr, dIx_ref, dCut_str, dCut_tup, dCut_scr, dCut_ref, bLen_str, bLen_tup, bLen_ref, bInt_int, bInt_bl, bTup_tup, bTup_ref, bList_str, bList_tup, bList_ref, tyD_str, mAppend_ref, mExtend_ref, tyL, dSetL_ref, mJoin_ref, bMin_ref, bMax_ref, atI_0, atI_1, atI_2, hp]
      have hm : a + (i : Int) ≤ b ∧ a + (i : Int) ≤ x.length := by omega
      refine ⟨by omega, by omega, ?_⟩
      refine lcB_map (fun d => match d with | .int n => .str (tearW k x n.toNat (a.toNat + i)) | _ => .non) True.intro (by rw [rngD_len]; omega) (fun d hd => ?_) fun r nr => ?_
      · obtain ⟨j, hj, rfl⟩ := rngD_mem hd
        refine ⟨_, rfl, fun K kk => ?_⟩
        show [D.str k, .str x, .int (0 + (j : Int)), .int (a + (i : Int))].length = 4 ∧ sp_raw_tear [D.str k, .str x, .int (0 + (j : Int)), .int (a + (i : Int))] h' K nox
        exact ⟨rfl, j, a.toNat + i, by omega, by omega, by omega, by omega, by simpa using kk⟩
      · have npr : p ≠ r := fun z => by subst z; rw [hp] at nr; cases nr
        have ef : ((rngD 0 ((x.length : Int) - (a + i) + 1).toNat).map fun d => (match d with | .int n => D.str (tearW k x n.toNat (a.toNat + i)) | _ => .non)) = (tearsN k x (a.toNat + i)).map D.str := by
          have ec : ((x.length : Int) - (a + i) + 1).toNat = x.length + 1 - (a.toNat + i) := by omega
          rw [ec]
          unfold rngD tearsN
          rw [List.map_map, List.map_map]
          refine List.map_congr_left fun j _ => ?_
          simp
        rw [ef]
        simp only [mExtend_ref, put_ne npr, put_same, hp, onL_lst]
        have hl1 := tearsL_len (k := k) (x := x) (a := a.toNat) i
        have hl2 : i * (x.length + 1) ≤ 4 * 1001 := Nat.mul_le_mul (by omega) (by omega)
        have hl3 : (tearsN k x (a.toNat + i)).length ≤ 1001 := by unfold tearsN; rw [List.length_map, List.length_range]; omega
        refine ⟨by rw [List.length_map, List.length_map]; omega, by omega, ⟨_, rfl⟩, ?_, ?_⟩
        · exact less_upd (less_new l nr) np
        · first | rfl | (rw [tearsL_succ, List.map_append])
/-! ### the law's own -/
def isKind (k : Tx) : Prop := k = kF ∨ k = kO ∨ k = kC ∨ k = kD
theorem rule_kind {k : Tx} {a b : D} (hr : isRule (.tup [.str k, a, b]) = true) : isKind k := by
  unfold isKind
  simp only [isRule] at hr
  unfold k_BOUNDS at hr
  by_cases h1 : k = kF
  · exact .inl h1
  · by_cases h2 : k = kO
    · exact .inr (.inl h2)
    · by_cases h3 : k = kC
      · exact .inr (.inr (.inl h3))
      · by_cases h4 : k = kD
        · exact .inr (.inr (.inr h4))
        · simp [h1, h2, h3, h4] at hr
def sp__law_torn : SpD := fun ds h Q E => (∃ k r, ds = .str k :: r ∧ isKind k) ∧ sp_raw_tear ds h Q E
/-- _law_torn(kind, word, at, size); slots: kind 0, word 1, at 2, size 3, signs 4 -/
def N__law_torn : List Str := ["kind", "word", "at", "size", "signs"]
def m__law_torn : MS := dSeq (dAsg (dCB bList (dCons (dSl (dVar 1) (dNoPart) (dPart (dVar 2))) (dNil))) (dName 4)) (dSeq (dIfS (dTest (dOp dEq (dVar 0) (dC (.str [102, 97, 100, 101, 100])))) (dAsg (dOp dAdd (dVar 4) (dOp dMul (dLst (dCons (dC (.str [63])) (dNil))) (dVar 3))) (dName 4)) (dNext)) (dSeq (dIfS (dTest (dOp dEq (dVar 0) (dC (.str [111, 112, 101, 110])))) (dDrop (dMt "list" mAppend (dVar 4) (dCons (dC (.str [42])) (dNil)))) (dNext)) (dSeq (dIfS (dTest (dOp dEq (dVar 0) (dC (.str [100, 111, 117, 98, 108, 101, 100])))) (dAsg (dOp dAdd (dVar 4) (dOp dMul (dCB bList (dCons (dSl (dVar 1) (dPart (dVar 2)) (dPart (dOp dAdd (dVar 2) (dVar 3)))) (dNil))) (dC (.int 2)))) (dName 4)) (dNext)) (dRet (dOp dAdd (dMt "str" mJoin (dC (.str [])) (dCons (dVar 4) (dNil))) (dSl (dVar 1) (dPart (dOp dAdd (dVar 2) (dVar 3))) (dNoPart)))))))
theorem st__law_torn (a0 a1 a2 a3 : D) : startD N__law_torn [a0, a1, a2, a3] = [some a0, some a1, some a2, some a3, none] := rfl
theorem signs_join (x : Tx) : joinD [] (x.map fun c => [c]) = x := by
  rw [joinD_nil]
  induction x with
  | nil => rfl
  | cons c x ih => rw [List.map_cons, List.flatten_cons, ih]; rfl
theorem put_old {g : DHp} {p r : Addr} {o u : DO} (e : g p = some u) (n : g r = none) : put g r o p = some u := by
  rw [put_ne]
  · exact e
  · intro z; subst z; rw [n] at e; cases e
theorem map_signs (x : Tx) : (x.map fun c => D.str [c]) = (x.map fun c => [c]).map D.str := by rw [List.map_map]; rfl
theorem sum_signs (x : Tx) : ((x.map fun c => [c]).map List.length).sum = x.length := by
  rw [List.map_map]
  induction x with
  | nil => rfl
  | cons c x ih => rw [List.map_cons, List.sum_cons, ih]; simp; omega
theorem ok__law_torn (ds : List D) (h : DHp) (Q : DK) (E : DX) (hn : ds.length = 4) (q : sp__law_torn ds h Q E) : m__law_torn (endsD Q E) (startD N__law_torn ds) h := by
  match ds, q with
  | [.str k, .str x, .int n, .int m], ⟨⟨k', r', e', hk⟩, q⟩ =>
    cases e'
    obtain ⟨n', m', rfl, rfl, h1, h2, q⟩ := q
    have hs := sizeLine_eq
    have ht : (x.take n').length ≤ 10000 := by rw [List.length_take]; omega
    -- the end: the signs joined
    have fin : ∀ (g : DHp) (ys : Tx) (L : List D), Less h g → L = ys.map (fun c => .str [c]) → ys.length ≤ 100000 → ys ++ x.drop (n' + m') = tearW k x n' m' → ∃ zs : List Tx, L = zs.map D.str ∧ (zs.map List.length).sum + zs.length * ([] : Tx).length ≤ 16777216 ∧ x.length ≤ sizeLine ∧ (joinD [] zs).length + (x.drop (n' + m')).length ≤ sizeLine ∧ Fgt Q (.str (joinD [] zs ++ x.drop (n' + m'))) g := by
      intro g ys L lg e hy et
      refine ⟨ys.map fun c => [c], e.trans (map_signs ys), ?_, by omega, ?_, ?_⟩
      · rw [sum_signs]; simp; omega
      · rw [signs_join, List.length_drop]; omega
      · rw [signs_join, et]; exact fgt_less lg q
    rcases hk with rfl | rfl | rfl | rfl
    · simp only [m__law_torn, st__law_torn, forall_const, true_implies, false_implies, implies_true, and_true, true_and, reduceCtorEq, Bool.not_true, Bool.not_false, Bool.true_xor, Bool.false_xor, Option.some.injEq, exists_eq_left', put_same, onB_bl, dSeq, dNext, dBreak, dDrop, dRet, dRetN, dIfS, dName, dgNil, dgCons, dgTup, dAsg, dPar, dPar3, dSetI, dgSub, dRaise, dVar, dC, dOp, dTest, dAnd, dOr, dNot, dAndV, dOrV, dNotV, dIf, dNil, dCons, dTup, dLst, dCall, dCB, dMt, dMt0, dInC, dIxC, dChain, dNeg, dNoPart, dPart, dSl, exE, dIsA, dCat, catchD, subE, Ex.ix, endsD, dLc, dISeq, dIRng1, dIRng2, dIEnum, dFor, dDcT, dDcK, dCallV, mStarts_str, List.getElem?_cons_zero, List.getElem?_cons_succ, List.set_cons_zero, List.set_cons_succ, onL_lst, isA_non, isA_int_int, isA_bool_int, isA_str_int, isA_tup_int, isA_lst_int, isA_int_str, isA_bool_str, isA_str_str, isA_tup_str, isA_lst_str, isA_int_tup, isA_bool_tup, isA_str_tup, isA_tup_tup, isA_lst_tup, isA_int_bl, isA_bool_bl, isA_str_bl, isA_tup_bl, isA_lst_bl, dAdd_int, dAdd_str, dAdd_tup, dAdd_ref, dSub_int, dLt_int, dLe_int, dGt_int, dGe_int, dMul_int, dMul_str, dMul_ref, dMod_int, dFdiv_int, dPow_int, dIsN_, dNotN_, isNon_int, isNon_non, dEq_str, dEq_int, dNe_str, dNe_int, dIn_sign, dIx_str, dIx_tup, dIx_scr, dIx_ref, dCut_str, dCut_tup, dCut_scr, dCut_ref, bLen_str, bLen_tup, bLen_ref, bInt_int, bInt_bl, bTup_tup, bTup_ref, bList_str, bList_tup, bList_ref, tyD_str, mAppend_ref, mExtend_ref, tyL, dSetL_ref, mJoin_ref, bMin_ref, bMax_ref, atI_0, atI_1, atI_2, ← Int.natCast_add, cut_take (show n' ≤ x.length by omega), cut_drop h1, cut_mid h1, Int.toNat_natCast, show (kF == kF) = true from rfl, show (kF == kO) = false from rfl, show (kF == kD) = false from rfl]
      refine ⟨by omega, by omega, fun p np => ⟨by show (1 : Nat) ≤ _; omega, fun p1 n1 => ⟨⟨by omega, by omega, by simp; omega⟩, fun p2 n2 => ?_⟩⟩⟩
      have e2 := put_old (o := .lst (repD m' [D.str [63]])) (put_old (o := .lst [D.str [63]]) (put_same (h := h) (a := p) (o := .lst ((x.take n').map fun c => .str [c]))) n1) n2
      rw [e2, onL_lst]
      refine ⟨by rw [repD_len, List.length_map]; simp; omega, fun p3 n3 => ?_⟩
      refine fin _ (x.take n' ++ List.replicate m' 63) _ (less_new (less_new (less_new (less_new Less.refl np) n1) n2) n3) (by rw [repD_one]; simp) (by simp; omega) (by simp [tearW])
    · simp only [m__law_torn, st__law_torn, forall_const, true_implies, false_implies, implies_true, and_true, true_and, reduceCtorEq, Bool.not_true, Bool.not_false, Bool.true_xor, Bool.false_xor, Option.some.injEq, exists_eq_left', put_same, onB_bl, dSeq, dNext, dBreak, dDrop, dRet, dRetN, dIfS, dName, dgNil, dgCons, dgTup, dAsg, dPar, dPar3, dSetI, dgSub, dRaise, dVar, dC, dOp, dTest, dAnd, dOr, dNot, dAndV, dOrV, dNotV, dIf, dNil, dCons, dTup, dLst, dCall, dCB, dMt, dMt0, dInC, dIxC, dChain, dNeg, dNoPart, dPart, dSl, exE, dIsA, dCat, catchD, subE, Ex.ix, endsD, dLc, dISeq, dIRng1, dIRng2, dIEnum, dFor, dDcT, dDcK, dCallV, mStarts_str, List.getElem?_cons_zero, List.getElem?_cons_succ, List.set_cons_zero, List.set_cons_succ, onL_lst, isA_non, isA_int_int, isA_bool_int, isA_str_int, isA_tup_int, isA_lst_int, isA_int_str, isA_bool_str, isA_str_str, isA_tup_str, isA_lst_str, isA_int_tup, isA_bool_tup, isA_str_tup, isA_tup_tup, isA_lst_tup, isA_int_bl, isA_bool_bl, isA_str_bl, isA_tup_bl, isA_lst_bl, dAdd_int, dAdd_str, dAdd_tup, dAdd_ref, dSub_int, dLt_int, dLe_int, dGt_int, dGe_int, dMul_int, dMul_str, dMul_ref, dMod_int, dFdiv_int, dPow_int, dIsN_, dNotN_, isNon_int, isNon_non, dEq_str, dEq_int, dNe_str, dNe_int, dIn_sign, dIx_str, dIx_tup, dIx_scr, dIx_ref, dCut_str, dCut_tup, dCut_scr, dCut_ref, bLen_str, bLen_tup, bLen_ref, bInt_int, bInt_bl, bTup_tup, bTup_ref, bList_str, bList_tup, bList_ref, tyD_str, mAppend_ref, mExtend_ref, tyL, dSetL_ref, mJoin_ref, bMin_ref, bMax_ref, atI_0, atI_1, atI_2, ← Int.natCast_add, cut_take (show n' ≤ x.length by omega), cut_drop h1, cut_mid h1, Int.toNat_natCast, show (kO == kF) = false from rfl, show (kO == kO) = true from rfl, show (kO == kD) = false from rfl]
      refine ⟨by omega, by omega, fun p np => ⟨by rw [List.length_map]; omega, ?_⟩⟩
      exact fin _ (x.take n' ++ [42]) _ (less_upd (less_new Less.refl np) np) (by simp) (by simp; omega) (by simp [tearW])
    · simp only [m__law_torn, st__law_torn, forall_const, true_implies, false_implies, implies_true, and_true, true_and, reduceCtorEq, Bool.not_true, Bool.not_false, Bool.true_xor, Bool.false_xor, Option.some.injEq, exists_eq_left', put_same, onB_bl, dSeq, dNext, dBreak, dDrop, dRet, dRetN, dIfS, dName, dgNil, dgCons, dgTup, dAsg, dPar, dPar3, dSetI, dgSub, dRaise, dVar, dC, dOp, dTest, dAnd, dOr, dNot, dAndV, dOrV, dNotV, dIf, dNil, dCons, dTup, dLst, dCall, dCB, dMt, dMt0, dInC, dIxC, dChain, dNeg, dNoPart, dPart, dSl, exE, dIsA, dCat, catchD, subE, Ex.ix, endsD, dLc, dISeq, dIRng1, dIRng2, dIEnum, dFor, dDcT, dDcK, dCallV, mStarts_str, List.getElem?_cons_zero, List.getElem?_cons_succ, List.set_cons_zero, List.set_cons_succ, onL_lst, isA_non, isA_int_int, isA_bool_int, isA_str_int, isA_tup_int, isA_lst_int, isA_int_str, isA_bool_str, isA_str_str, isA_tup_str, isA_lst_str, isA_int_tup, isA_bool_tup, isA_str_tup, isA_tup_tup, isA_lst_tup, isA_int_bl, isA_bool_bl, isA_str_bl, isA_tup_bl, isA_lst_bl, dAdd_int, dAdd_str, dAdd_tup, dAdd_ref, dSub_int, dLt_int, dLe_int, dGt_int, dGe_int, dMul_int, dMul_str, dMul_ref, dMod_int, dFdiv_int, dPow_int, dIsN_, dNotN_, isNon_int, isNon_non, dEq_str, dEq_int, dNe_str, dNe_int, dIn_sign, dIx_str, dIx_tup, dIx_scr, dIx_ref, dCut_str, dCut_tup, dCut_scr, dCut_ref, bLen_str, bLen_tup, bLen_ref, bInt_int, bInt_bl, bTup_tup, bTup_ref, bList_str, bList_tup, bList_ref, tyD_str, mAppend_ref, mExtend_ref, tyL, dSetL_ref, mJoin_ref, bMin_ref, bMax_ref, atI_0, atI_1, atI_2, ← Int.natCast_add, cut_take (show n' ≤ x.length by omega), cut_drop h1, cut_mid h1, Int.toNat_natCast, show (kC == kF) = false from rfl, show (kC == kO) = false from rfl, show (kC == kD) = false from rfl]
      refine ⟨by omega, by omega, fun p np => ?_⟩
      exact fin _ (x.take n') _ (less_new Less.refl np) rfl (by omega) (by simp [tearW])
    · simp only [m__law_torn, st__law_torn, forall_const, true_implies, false_implies, implies_true, and_true, true_and, reduceCtorEq, Bool.not_true, Bool.not_false, Bool.true_xor, Bool.false_xor, Option.some.injEq, exists_eq_left', put_same, onB_bl, dSeq, dNext, dBreak, dDrop, dRet, dRetN, dIfS, dName, dgNil, dgCons, dgTup, dAsg, dPar, dPar3, dSetI, dgSub, dRaise, dVar, dC, dOp, dTest, dAnd, dOr, dNot, dAndV, dOrV, dNotV, dIf, dNil, dCons, dTup, dLst, dCall, dCB, dMt, dMt0, dInC, dIxC, dChain, dNeg, dNoPart, dPart, dSl, exE, dIsA, dCat, catchD, subE, Ex.ix, endsD, dLc, dISeq, dIRng1, dIRng2, dIEnum, dFor, dDcT, dDcK, dCallV, mStarts_str, List.getElem?_cons_zero, List.getElem?_cons_succ, List.set_cons_zero, List.set_cons_succ, onL_lst, isA_non, isA_int_int, isA_bool_int, isA_str_int, isA_tup_int, isA_lst_int, isA_int_str, isA_bool_str, isA_str_str, isA_tup_str, isA_lst_str, isA_int_tup, isA_bool_tup, isA_str_tup, isA_tup_tup, isA_lst_tup, isA_int_bl, isA_bool_bl, isA_str_bl, isA_tup_bl, isA_lst_bl, dAdd_int, dAdd_str, dAdd_tup, dAdd_ref, dSub_int, dLt_int, dLe_int, dGt_int, dGe_int, dMul_int, dMul_str, dMul_ref, dMod_int, dFdiv_int, dPow_int, dIsN_, dNotN_, isNon_int, isNon_non, dEq_str, dEq_int, dNe_str, dNe_int, dIn_sign, dIx_str, dIx_tup, dIx_scr, dIx_ref, dCut_str, dCut_tup, dCut_scr, dCut_ref, bLen_str, bLen_tup, bLen_ref, bInt_int, bInt_bl, bTup_tup, bTup_ref, bList_str, bList_tup, bList_ref, tyD_str, mAppend_ref, mExtend_ref, tyL, dSetL_ref, mJoin_ref, bMin_ref, bMax_ref, atI_0, atI_1, atI_2, ← Int.natCast_add, cut_take (show n' ≤ x.length by omega), cut_drop h1, cut_mid h1, Int.toNat_natCast, show (kD == kF) = false from rfl, show (kD == kO) = false from rfl, show (kD == kD) = true from rfl]
      have l3 : ((x.drop n').take m').length = m' := by rw [List.length_take, List.length_drop]; omega
      refine ⟨by omega, by omega, fun p np => ⟨by omega, by omega, fun p1 n1 => ⟨⟨by omega, by omega, by rw [List.length_map]; show _ * 2 ≤ _; omega⟩, fun p2 n2 => ?_⟩⟩⟩
      have e2 := put_old (o := .lst (repD (Int.toNat 2) (((x.drop n').take m').map fun c => D.str [c]))) (put_old (o := .lst (((x.drop n').take m').map fun c => D.str [c])) (put_same (h := h) (a := p) (o := .lst ((x.take n').map fun c => .str [c]))) n1) n2
      rw [e2, onL_lst]
      have er : repD (Int.toNat 2) (((x.drop n').take m').map fun c => D.str [c]) = ((x.drop n').take m' ++ (x.drop n').take m').map fun c => D.str [c] := by
        show repD 2 _ = _
        simp [repD, List.replicate_succ]
      refine ⟨by rw [repD_len, List.length_map, List.length_map]; show _ + 2 * _ ≤ _; omega, fun p3 n3 => ?_⟩
      refine fin _ (x.take n' ++ ((x.drop n').take m' ++ (x.drop n').take m')) _ (less_new (less_new (less_new (less_new Less.refl np) n1) n2) n3) (by rw [er]; simp) (by simp; omega) (by simp [tearW])
end Tw

namespace Tw
open PySem PySem.Spec PyProof.Rows L2
/-- signs as Python has them -/
def okTx (x : Tx) : Prop := ∀ c ∈ x, c < 1114112
theorem shaped_s {x : Tx} (h : okTx x) : SeqAt.shaped (.str (tx x)) = true := by
  simp only [SeqAt.shaped, PyData.canLay0, PyData.strOk, PyData.depth, Bool.and_eq_true, decide_eq_true_eq]
  refine ⟨?_, rfl⟩
  rw [Array.all_eq_true]
  intro i hi
  have : (tx x).cps[i] ∈ x := by
    show x.toArray[i] ∈ x
    simp
  simpa using h _ this
theorem canL_all {ws : List Tx} (h : ∀ w ∈ ws, okTx w) : PyData.canLayAll0 (ws.map fun w => PyData.str (tx w)) = true := by
  induction ws with
  | nil => rfl
  | cons w ws ih =>
    rw [List.map_cons, PyData.canLayAll0, Bool.and_eq_true]
    have := shaped_s (h w (by simp))
    simp only [SeqAt.shaped, Bool.and_eq_true] at this
    exact ⟨this.1, ih fun v hv => h v (by simp [hv])⟩
theorem depth_all (ws : List Tx) : PyData.depthAll (ws.map fun w => PyData.str (tx w)) = 0 := by
  induction ws with
  | nil => rfl
  | cons w ws ih => rw [List.map_cons, PyData.depthAll, ih]; rfl
theorem shaped_l {ws : List Tx} (h : ∀ w ∈ ws, okTx w) : SeqAt.shaped (.list (ws.map fun w => PyData.str (tx w))) = true := by
  simp only [SeqAt.shaped, PyData.canLay0, PyData.depth, Bool.and_eq_true, decide_eq_true_eq]
  have e := depth_all ws
  exact ⟨canL_all h, by first | (rw [e]; decide) | (simp [e])⟩
theorem pya_strs {h : DHp} : ∀ ws : List Tx, PyA h (ws.map D.str) (ws.map fun w => PyData.str (tx w))
  | [] => .nil
  | w :: ws => .cons (.str w) (pya_strs ws)
theorem eqvAll_strs : ∀ ws vs : List Tx, PyData.eqvAll (ws.map fun w => PyData.str (tx w)) (vs.map fun w => PyData.str (tx w)) = decide (ws = vs)
  | [], [] => rfl
  | [], v :: vs => by simp [PyData.eqvAll]
  | w :: ws, [] => by simp [PyData.eqvAll]
  | w :: ws, v :: vs => by
    rw [List.map_cons, List.map_cons, PyData.eqvAll, eqvAll_strs ws vs]
    have e : PyData.eqv (.str (tx w)) (.str (tx v)) = decide (w = v) := by
      simp only [PyData.eqv]
      rw [Bool.eq_iff_iff, beq_iff_eq, decide_eq_true_eq]
      exact tx_inj
    rw [e]
    by_cases h1 : w = v <;> by_cases h2 : ws = vs <;> simp [h1, h2]
/-- == of lists of texts -/
theorem dEq_strs {h : DHp} {a b : Addr} {ws vs : List Tx} {K : DK} (ea : h a = some (.lst (ws.map D.str))) (eb : h b = some (.lst (vs.map D.str))) (h1 : ∀ w ∈ ws, okTx w) (h2 : ∀ w ∈ vs, okTx w) (k : K (.bl (decide (ws = vs))) h) : dEq (.ref a) (.ref b) h K :=
  ⟨_, _, .lst ea (pya_strs ws), .lst eb (pya_strs vs), shaped_l h1, shaped_l h2, by simp only [PyData.eqv]; rw [eqvAll_strs]; exact k⟩
theorem dNe_strs {h : DHp} {a b : Addr} {ws vs : List Tx} {K : DK} (ea : h a = some (.lst (ws.map D.str))) (eb : h b = some (.lst (vs.map D.str))) (h1 : ∀ w ∈ ws, okTx w) (h2 : ∀ w ∈ vs, okTx w) (k : K (.bl (!decide (ws = vs))) h) : dNe (.ref a) (.ref b) h K :=
  ⟨_, _, .lst ea (pya_strs ws), .lst eb (pya_strs vs), shaped_l h1, shaped_l h2, by simp only [PyData.eqv]; rw [eqvAll_strs]; exact k⟩
/-- an object of one's own is handed back -/
theorem fgt_own {Q : DK} {h g : DHp} {p : Addr} {o : DO} (l : Less h g) (e : g p = some o) (n : h p = none) (q : ∀ r, h r = none → Q (.ref r) (put h r o)) : Fgt Q (.ref p) g :=
  ⟨put h p o, fun a x ea => by
    by_cases z : a = p
    · subst z; rw [put_same] at ea; rw [e]; exact ea
    · rw [put_ne z] at ea; exact l a x ea, q p n⟩
theorem adj_snoc (ws : List (List Nat)) (x : List Nat) : adj (ws ++ [x]) = if (adj ws).getLast? = some x then adj ws else adj ws ++ [x] := by
  unfold adj
  rw [List.foldl_append]
  rfl
theorem adj_sub : ∀ (ws acc : List (List Nat)) (z : List Nat), z ∈ ws.foldl (fun a x => if a.getLast? = some x then a else a ++ [x]) acc → z ∈ acc ∨ z ∈ ws
  | [], _, _, h => .inl h
  | x :: ws, acc, z, h => by
    rw [List.foldl_cons] at h
    rcases adj_sub ws _ z h with q | q
    · split at q
      · exact .inl q
      · rcases List.mem_append.mp q with q | q
        · exact .inl q
        · simp at q; subst q; exact .inr (by simp)
    · exact .inr (by simp [q])
theorem adj_len : ∀ (ws acc : List (List Nat)), (ws.foldl (fun a x => if a.getLast? = some x then a else a ++ [x]) acc).length ≤ acc.length + ws.length
  | [], acc => Nat.le_refl _
  | x :: ws, acc => by
    rw [List.foldl_cons]
    refine Nat.le_trans (adj_len ws _) ?_
    split <;> simp <;> omega
def sp__law_sorted : SpD := fun ds h Q _ => match ds with
  | [.ref a] => ∃ ws : List Tx, h a = some (.lst (ws.map D.str)) ∧ ws.length ≤ 1000000 ∧ (∀ w ∈ ws, w.length ≤ 10000 ∧ okTx w) ∧ ∀ r, h r = none → Q (.ref r) (put h r (.lst ((inOrder ws).map D.str)))
  | _ => False
/-- _law_sorted(words); slots: words 0, found 1, size 2, word 3 -/
def N__law_sorted : List Str := ["words", "found", "size", "word"]
def m__law_sorted : MS := dSeq (dAsg (dLst (dNil)) (dName 1)) (dSeq (dFor (dISeq (dCB bSorted (dCons (dLc (dISeq (dVar 0)) (.nm 3) (dYes) (dTup (dCons (dCB bLen (dCons (dVar 3) (dNil))) (dCons (dVar 3) (dNil)))) [3]) (dNil)))) (dgTup 2 (dgCons (dName 2) (dgCons (dName 3) (dgNil)))) (dIfS (dOr (dTest (dOp dEq (dVar 1) (dLst (dNil)))) (dTest (dOp dNe (dOp dIx (dVar 1) (dNeg (dC (.int 1)))) (dVar 3)))) (dDrop (dMt "list" mAppend (dVar 1) (dCons (dVar 3) (dNil)))) (dNext))) (dRet (dVar 1)))
theorem st__law_sorted (a0 : D) : startD N__law_sorted [a0] = [some a0, none, none, none] := rfl
theorem ok__law_sorted (ds : List D) (h : DHp) (Q : DK) (E : DX) (hn : ds.length = 1) (q : sp__law_sorted ds h Q E) : m__law_sorted (endsD Q E) (startD N__law_sorted ds) h := by
  match ds, q with
  | [.ref a], ⟨ws, ea, hz, hw, q⟩ =>
    have hs := sizeLine_eq
    simp only [m__law_sorted, st__law_sorted, forall_const, true_implies, false_implies, implies_true, and_true, true_and, reduceCtorEq, Bool.not_true, Bool.not_false, Bool.true_xor, Bool.false_xor, Option.some.injEq, exists_eq_left', put_same, onB_bl, dSeq, dNext, dBreak, dDrop, dRet, dRetN, dIfS, dName, dgNil, dgCons, dgTup, dAsg, dPar, dPar3, dSetI, dgSub, dRaise, dVar, dC, dOp, dTest, dAnd, dOr, dNot, dAndV, dOrV, dNotV, dIf, dNil, dCons, dTup, dLst, dCall, dCB, dMt, dMt0, dInC, dIxC, dChain, dNeg, dNoPart, dPart, dSl, exE, dIsA, dCat, catchD, subE, Ex.ix, endsD, dLc, dISeq, dIRng1, dIRng2, dIEnum, dFor, dDcT, dDcK, dCallV, mStarts_str, List.getElem?_cons_zero, List.getElem?_cons_succ, List.set_cons_zero, List.set_cons_succ, onL_lst, isA_non, isA_int_int, isA_bool_int, isA_str_int, isA_tup_int, isA_lst_int, isA_int_str, isA_bool_str, isA_str_str, isA_tup_str, isA_lst_str, isA_int_tup, isA_bool_tup, isA_str_tup, isA_tup_tup, isA_lst_tup, isA_int_bl, isA_bool_bl, isA_str_bl, isA_tup_bl, isA_lst_bl, dAdd_int, dAdd_str, dAdd_tup, dAdd_ref, dSub_int, dLt_int, dLe_int, dGt_int, dGe_int, dMul_int, dMul_str, dMul_ref, dMod_int, dFdiv_int, dPow_int, dIsN_, dNotN_, isNon_int, isNon_non, dEq_str, dEq_int, dNe_str, dNe_int, dIn_sign, dIx_str, dIx_tup, dIx_scr, dIx_ref, dCut_str, dCut_tup, dCut_scr, dCut_ref, bLen_str, bLen_tup, bLen_ref, bInt_int, bInt_bl, bTup_tup, bTup_ref, bList_str, bList_tup, bList_ref, tyD_str, mAppend_ref, mExtend_ref, tyL, dSetL_ref, mJoin_ref, bMin_ref, bMax_ref, atI_0, atI_1, atI_2]
    refine ⟨by show (0 : Nat) ≤ _; omega, fun p np => ?_⟩
    have ea' := put_old (o := .lst []) ea np
    simp only [ea']
    refine lcB_map (fun d => match d with | .str x => .tup (keyT x) | _ => .non) ea' (by rw [List.length_map]; omega) (fun d hd => ?_) fun r nr => ?_
    · obtain ⟨x, hx, rfl⟩ := List.mem_map.mp hd
      refine ⟨_, rfl, fun K k => ?_⟩
      show x.length ≤ sizeLine ∧ _
      have := hw x hx
      exact ⟨by omega, by show (2 : Nat) ≤ sizeLine; omega, k⟩
    · have e1 : ((ws.map D.str).map fun d => (match d with | .str x => D.tup (keyT x) | _ => .non)) = ws.map fun x => .tup (keyT x) := by rw [List.map_map]; rfl
      rw [e1]
      have hpr : p ≠ r := fun z => by subst z; rw [put_same] at nr; cases nr
      refine ⟨ws.map fun x => .tup (keyT x), ws.map keyW, by simp [sortItems, put_same], pya_keys _, alike_W _, sortable_W _, depth_W _, by rw [List.length_map]; omega, fun u nu => ?_⟩
      rw [sortD_W]
      generalize eg : put (put (put h p (.lst [])) r (.lst (ws.map fun x => .tup (keyT x)))) u (.lst ((ws.mergeSort leW).map fun x => .tup (keyT x))) = g
      have gu : g u = some (.lst ((ws.mergeSort leW).map fun x => .tup (keyT x))) := by rw [← eg, put_same]
      have hpu : p ≠ u := fun z => by subst z; rw [put_ne hpr, put_same] at nu; cases nu
      have gp : g p = some (.lst []) := by rw [← eg, put_ne hpu, put_ne hpr, put_same]
      have lg : Less h g := by rw [← eg]; exact less_new (less_new (less_new Less.refl np) nr) nu
      simp only [gu]
      have hl : (ws.mergeSort leW).length ≤ 1000000 := by rw [(List.mergeSort_perm ws leW).length_eq]; exact hz
      have hmem : ∀ w ∈ ws.mergeSort leW, w.length ≤ 10000 ∧ okTx w := fun w m => hw w ((List.mergeSort_perm ws leW).mem_iff.mp m)
      refine forB_inv (fun i δ h' => (∃ s1 s2, δ = [some (.ref a), some (.ref p), s1, s2]) ∧ Less h h' ∧ h' u = some (.lst ((ws.mergeSort leW).map fun x => .tup (keyT x))) ∧ h' p = some (.lst ((adj ((ws.mergeSort leW).take i)).map D.str)))
        ⟨⟨_, _, rfl⟩, lg, gu, gp⟩ (fun _ _ _ v => v.2.2.1) ?_ ?_
      · rintro δ h' ⟨⟨s1, s2, rfl⟩, l, _, hp⟩
        rw [List.length_map, List.take_length, adj_inOrder] at hp
        exact fgt_own l hp np q
      · rintro i d δ h' hd ⟨⟨s1, s2, rfl⟩, l, hu, hp⟩
        rw [List.getElem?_map] at hd
        obtain ⟨w, ew, rfl⟩ := Option.map_eq_some_iff.mp hd
        have hw' := hmem w (List.mem_of_getElem? ew)
        have ei : (ws.mergeSort leW).take (i + 1) = (ws.mergeSort leW).take i ++ [w] := by
          obtain ⟨hlt, e⟩ := List.getElem?_eq_some_iff.mp ew
          rw [← e, List.take_succ_eq_append_getElem hlt]
        rw [ei, adj_snoc]
        generalize eA : adj ((ws.mergeSort leW).take i) = A at hp
        have okA : ∀ v ∈ A, okTx v := fun v hv => by
          rw [← eA] at hv
          rcases adj_sub _ _ v hv with q | q
          · cases q
          · exact (hmem v (List.mem_of_mem_take q)).2
        have lA : A.length ≤ 1000000 := by
          rw [← eA]
          refine Nat.le_trans (adj_len _ _) ?_
          have := List.length_take_le i (ws.mergeSort leW)
          simp
          omega
        show [D.int w.length, D.str w].length = 2 ∧ _
        refine ⟨rfl, ?_⟩
        simp only [forall_const, true_implies, false_implies, implies_true, and_true, true_and, reduceCtorEq, Bool.not_true, Bool.not_false, Bool.true_xor, Bool.false_xor, Option.some.injEq, exists_eq_left', put_same, onB_bl, dSeq, dNext, dBreak, dDrop, dRet, dRetN, dIfS, dName, dgNil, dgCons, dgTup, dAsg, dPar, dPar3, dSetI, dgSub, dRaise, dVar, dC, dOp, dTest, dAnd, dOr, dNot, dAndV, dOrV, dNotV, dIf, dNil, dCons, dTup, dLst, dCall, dCB, dMt, dMt0, dInC, dIxC, dChain, dNeg, dNoPart, dPart, dSl, exE, dIsA, dCat, catchD, subE, Ex.ix, endsD, dLc, dISeq, dIRng1, dIRng2, dIEnum, dFor, dDcT, dDcK, dCallV, mStarts_str, List.getElem?_cons_zero, List.getElem?_cons_succ, List.set_cons_zero, List.set_cons_succ, onL_lst, isA_non, isA_int_int, isA_bool_int, isA_str_int, isA_tup_int, isA_lst_int, isA_int_str, isA_bool_str, isA_str_str, isA_tup_str, isA_lst_str, isA_int_tup, isA_bool_tup, isA_str_tup, isA_tup_tup, isA_lst_tup, isA_int_bl, isA_bool_bl, isA_str_bl, isA_tup_bl, isA_lst_bl, dAdd_int, dAdd_str, dAdd_tup, dAdd_ref, dSub_int, dLt_int, dLe_int, dGt_int, dGe_int, dMul_int, dMul_str, dMul_ref, dMod_int, dFdiv_int, dPow_int, dIsN_, dNotN_, isNon_int, isNon_non, dEq_str, dEq_int, dNe_str, dNe_int, dIn_sign, dIx_str, dIx_tup, dIx_scr, dIx_ref, dCut_str, dCut_tup, dCut_scr, dCut_ref, bLen_str, bLen_tup, bLen_ref, bInt_int, bInt_bl, bTup_tup, bTup_ref, bList_str, bList_tup, bList_ref, tyD_str, mAppend_ref, mExtend_ref, tyL, dSetL_ref, mJoin_ref, bMin_ref, bMax_ref, atI_0, atI_1, atI_2, hp]
        have kA : ∀ v ∈ ([] : List Tx), okTx v := fun v hv => by cases hv
        have hupA : ∀ {z : DHp} {o : DO}, z u = some (.lst ((ws.mergeSort leW).map fun x => .tup (keyT x))) → put z p o u = some (.lst ((ws.mergeSort leW).map fun x => .tup (keyT x))) := fun e => by rw [put_ne (Ne.symm hpu)]; exact e
        refine ⟨rfl, by show (0 : Nat) ≤ _; omega, fun p1 n1 => ?_⟩
        have hp1 := put_old (o := .lst []) hp n1
        have hu1 := put_old (o := .lst []) hu n1
        have l1 : Less h (put h' p1 (.lst [])) := less_new l n1
        refine dEq_strs hp1 put_same okA kA ?_
        simp only [onB_, hp1, onL_lst]
        refine ⟨fun hA => ?_, fun hA => ?_⟩
        · have eA0 : A = [] := by simpa using hA
          subst eA0
          exact ⟨True.intro, by show (0 : Nat) < _; omega, ⟨_, _, rfl⟩, less_upd l1 np, hupA hu1, by simp⟩
        · have nA : A ≠ [] := by simpa using hA
          have eL : A.getLast? = some (A.getLast nA) := List.getLast?_eq_some_getLast nA
          have eI : atI (A.map D.str) (-1) = some (.str (A.getLast nA)) := by
            have e := List.dropLast_concat_getLast nA
            generalize A.getLast nA = z at e
            rw [← e, List.map_append]
            exact L2.atI_last _ _
          refine ⟨_, eI, ?_⟩
          simp only [dNe_str, onB_, hp1, onL_lst]
          refine ⟨fun hb => ?_, fun hb => ?_⟩
          · have ne : A.getLast nA ≠ w := by simpa using hb
            exact ⟨True.intro, by rw [List.length_map]; omega, ⟨_, _, rfl⟩, less_upd l1 np, hupA hu1, by simp [eL, ne]⟩
          · have ee : A.getLast nA = w := by simpa using hb
            exact ⟨⟨_, _, rfl⟩, l1, hu1, by simp [eL, ee]⟩
theorem okTx_tear {k x : Tx} {n m : Nat} (h : okTx x) : okTx (tearW k x n m) := by
  intro c hc
  unfold tearW at hc
  rcases List.mem_append.mp hc with hc | hc
  · rcases List.mem_append.mp hc with hc | hc
    · exact h c (List.mem_of_mem_take hc)
    · split at hc
      · have := (List.mem_replicate.mp hc).2; omega
      · split at hc
        · simp at hc; omega
        · split at hc
          · cases hc
          · rcases List.mem_append.mp hc with hc | hc
            · exact h c (List.mem_of_mem_drop (List.mem_of_mem_take hc))
            · exact h c (List.mem_of_mem_drop (List.mem_of_mem_take hc))
  · exact h c (List.mem_of_mem_drop hc)
def sp__law_readings : SpD := fun ds h Q _ => match ds with
  | [.tup [.str k, .int a, .int b], .str x] => isKind k ∧ okTx x ∧ 0 ≤ a ∧ a ≤ b ∧ b ≤ 3 ∧ x.length ≤ 1000 ∧ ∀ r, h r = none → Q (.ref r) (put h r (.lst ((readW k x a.toNat b.toNat).map D.str)))
  | _ => False
/-- _law_readings(rule, word); slots: rule 0, word 1, found 2, size 3, at 4 -/
def N__law_readings : List Str := ["rule", "word", "found", "size", "at"]
def m__law_readings : MS := dSeq (dAsg (dLst (dNil)) (dName 2)) (dSeq (dFor (dIRng2 (dCons (dOp dIx (dVar 0) (dC (.int 1))) (dCons (dOp dAdd (dOp dIx (dVar 0) (dC (.int 2))) (dC (.int 1))) (dNil)))) (dName 3) (dFor (dIRng1 (dCons (dOp dAdd (dOp dSub (dCB bLen (dCons (dVar 1) (dNil))) (dVar 3)) (dC (.int 1))) (dNil))) (dName 4) (dDrop (dMt "list" mAppend (dVar 2) (dCons (dCall 4 sp__law_torn (dCons (dOp dIx (dVar 0) (dC (.int 0))) (dCons (dVar 1) (dCons (dVar 4) (dCons (dVar 3) (dNil)))))) (dNil)))))) (dRet (dCall 1 sp__law_sorted (dCons (dVar 2) (dNil)))))
theorem st__law_readings (a0 a1 : D) : startD N__law_readings [a0, a1] = [some a0, some a1, none, none, none] := rfl
theorem ok__law_readings (ds : List D) (h : DHp) (Q : DK) (E : DX) (hn : ds.length = 2) (q : sp__law_readings ds h Q E) : m__law_readings (endsD Q E) (startD N__law_readings ds) h := by
  match ds, q with
  | [.tup [.str k, .int a, .int b], .str x], ⟨hk, hx0, h1, h2, h3, hx, q⟩ =>
    have hs := sizeLine_eq
    simp only [m__law_readings, st__law_readings, forall_const, true_implies, false_implies, implies_true, and_true, true_and, reduceCtorEq, Bool.not_true, Bool.not_false, Bool.true_xor, Bool.false_xor, Option.some.injEq, exists_eq_left', put_same, onB_bl, dSeq, dNext, dBreak, dDrop, dRet, dRetN, dIfS, dName, dgNil, dgCons, dgTup, dAsg, dPar, dPar3, dSetI, dgSub, dRaise, dVar, dC, dOp, dTest, dAnd, dOr, dNot, dAndV, dOrV, dNotV, dIf, dNil, dCons, dTup, dLst, dCall, dCB, dMt, dMt0, dInC, dIxC, dChain, dNeg, dNoPart, dPart, dSl, exE, dIsA, dCat, catchD, subE, Ex.ix, endsD, dLc, dISeq, dIRng1, dIRng2, dIEnum, dFor, dDcT, dDcK, dCallV, mStarts_str, List.getElem?_cons_zero, List.getElem?_cons_succ, List.set_cons_zero, List.set_cons_succ, onL_lst, isA_non, isA_int_int, isA_bool_int, isA_str_int, isA_tup_int, isA_lst_int, isA_int_str, isA_bool_str, isA_str_str, isA_tup_str, isA_lst_str, isA_int_tup, isA_bool_tup, isA_str_tup, isA_tup_tup, isA_lst_tup, isA_int_bl, isA_bool_bl, isA_str_bl, isA_tup_bl, isA_lst_bl, dAdd_int, dAdd_str, dAdd_tup, dAdd_ref, dSub_int, dLt_int, dLe_int, dGt_int, dGe_int, dMul_int, dMul_str, dMul_ref, dMod_int, dFdiv_int, dPow_int, dIsN_, dNotN_, isNon_int, isNon_non, dEq_str, dEq_int, dNe_str, dNe_int, dIn_sign, dIx_str, dIx_tup, dIx_scr, dIx_ref, dCut_str, dCut_tup, dCut_scr, dCut_ref, bLen_str, bLen_tup, bLen_ref, bInt_int, bInt_bl, bTup_tup, bTup_ref, bList_str, bList_tup, bList_ref, tyD_str, mAppend_ref, mExtend_ref, tyL, dSetL_ref, mJoin_ref, bMin_ref, bMax_ref, atI_0, atI_1, atI_2]
    refine ⟨by show (0 : Nat) ≤ sizeLine; omega, fun p np => ⟨by omega, ?_⟩⟩
    have key : ∀ i, i ≤ b.toNat + 1 - a.toNat → (tearsL k x a.toNat i).length ≤ 4004 := fun i hi => by
      have := tearsL_len (k := k) (x := x) (a := a.toNat) i
      have : i * (x.length + 1) ≤ 4 * 1001 := Nat.mul_le_mul (by omega) (by omega)
      omega
    generalize en : (b + 1 - a).toNat = n
    have en' : n = b.toNat + 1 - a.toNat := by omega
    refine forB_inv (fun i δ h' => i ≤ n ∧ (∃ s1 s2, δ = [some (.tup [.str k, .int a, .int b]), some (.str x), some (.ref p), s1, s2]) ∧ Less h h' ∧ h' p = some (.lst ((tearsL k x a.toNat i).map D.str)))
      ⟨Nat.zero_le _, ⟨_, _, rfl⟩, less_new Less.refl np, put_same⟩ (fun _ _ _ _ => True.intro) ?_ ?_
    · rintro δ h' ⟨_, ⟨s1, s2, rfl⟩, l, hp⟩
      rw [rngD_len] at hp
      show [D.ref p].length = 1 ∧ ∃ ws, _
      refine ⟨rfl, tearsL k x a.toNat n, hp, ?_, fun w hw => ?_, fun r nr => ?_⟩
      · have := key n (by omega); omega
      · obtain ⟨i, m, _, h5, rfl⟩ := tearsL_mem hw
        have := tearW_len (k := k) h5 (.inr True.intro)
        exact ⟨by omega, okTx_tear hx0⟩
      · rw [en']
        exact fgt_new l nr q
    · rintro i d δ h' hd ⟨hi, ⟨s1, s2, rfl⟩, l, hp⟩
      obtain ⟨hin, rfl⟩ := rngD_get hd
      simp only [forall_const, true_implies, false_implies, implies_true, and_true, true_and, reduceCtorEq, Bool.not_true, Bool.not_false, Bool.true_xor, Bool.false_xor, Option.some.injEq, exists_eq_left', put_same, onB_bl, dSeq, dNext, dBreak, dDrop, dRet, dRetN, dIfS, dName, dgNil, dgCons, dgTup, dAsg, dPar, dPar3, dSetI, dgSub, dRaise, dVar, dC, dOp, dTest, dAnd, dOr, dNot, dAndV, dOrV, dNotV, dIf, dNil, dCons, dTup, dLst, dCall, dCB, dMt, dMt0, dInC, dIxC, dChain, dNeg, dNoPart, dPart, dSl, exE, dIsA, dCat, catchD, subE, Ex.ix, endsD, dLc, dISeq, dIRng1, dIRng2, dIEnum, dFor, dDcT, dDcK, dCallV, mStarts_str, List.getElem?_cons_zero, List.getElem?_cons_succ, List.set_cons_zero, List.set_cons_succ, onL_lst, isA_non, isA_int_int, isA_bool_int, isA_str_int, isA_tup_int, isA_lst_int, isA_int_str, isA_bool_str, isA_str_str, isA_tup_str, isA_lst_str, isA_int_tup, isA_bool_tup, isA_str_tup, isA_tup_tup, isA_lst_tup, isA_int_bl, isA_bool_bl, isA_str_bl, isA_tup_bl, isA_lst_bl, dAdd_int, dAdd_str, dAdd_tup, dAdd_ref, dSub_int, dLt_int, dLe_int, dGt_int, dGe_int, dMul_int, dMul_str, dMul_ref, dMod_int, dFdiv_int, dPow_int, dIsN_, dNotN_, isNon_int, isNon_non, dEq_str, dEq_int, dNe_str, dNe_int, dIn_sign, dIx_str, dIx_tup, dIx_scr, dIx_ref, dCut_str, dCut_tup, dCut_scr, dCut_ref, bLen_str, bLen_tup, bLen_ref, bInt_int, bInt_bl, bTup_tup, bTup_ref, bList_str, bList_tup, bList_ref, tyD_str, mAppend_ref, mExtend_ref, tyL, dSetL_ref, mJoin_ref, bMin_ref, bMax_ref, atI_0, atI_1, atI_2]
      have ki := key (i + 1) (by omega)
      rw [tearsL_succ, List.length_append] at ki
      refine ⟨by omega, by omega, ?_⟩
      have ec : ((x.length : Int) - (a + i) + 1).toNat = x.length + 1 - (a.toNat + i) := by omega
      rw [ec]
      have el : (tearsN k x (a.toNat + i)).length = x.length + 1 - (a.toNat + i) := by unfold tearsN; rw [List.length_map, List.length_range]
      refine forB_inv (fun j δ h' => j ≤ x.length + 1 - (a.toNat + i) ∧ (∃ s2, δ = [some (.tup [.str k, .int a, .int b]), some (.str x), some (.ref p), some (.int (a + i)), s2]) ∧ Less h h' ∧ h' p = some (.lst ((tearsL k x a.toNat i ++ (tearsN k x (a.toNat + i)).take j).map D.str)))
        ⟨Nat.zero_le _, ⟨_, rfl⟩, l, by simpa using hp⟩ (fun _ _ _ _ => True.intro) ?_ ?_
      · rintro δ g ⟨_, ⟨s2, rfl⟩, l, hp⟩
        rw [rngD_len, List.take_of_length_le (Nat.le_of_eq el), ← tearsL_succ] at hp
        exact ⟨by omega, ⟨_, _, rfl⟩, l, hp⟩
      · rintro j d δ g hd ⟨hj, ⟨s2, rfl⟩, l, hp⟩
        obtain ⟨hjn, rfl⟩ := rngD_get hd
        simp only [forall_const, true_implies, false_implies, implies_true, and_true, true_and, reduceCtorEq, Bool.not_true, Bool.not_false, Bool.true_xor, Bool.false_xor, Option.some.injEq, exists_eq_left', put_same, onB_bl, dSeq, dNext, dBreak, dDrop, dRet, dRetN, dIfS, dName, dgNil, dgCons, dgTup, dAsg, dPar, dPar3, dSetI, dgSub, dRaise, dVar, dC, dOp, dTest, dAnd, dOr, dNot, dAndV, dOrV, dNotV, dIf, dNil, dCons, dTup, dLst, dCall, dCB, dMt, dMt0, dInC, dIxC, dChain, dNeg, dNoPart, dPart, dSl, exE, dIsA, dCat, catchD, subE, Ex.ix, endsD, dLc, dISeq, dIRng1, dIRng2, dIEnum, dFor, dDcT, dDcK, dCallV, mStarts_str, List.getElem?_cons_zero, List.getElem?_cons_succ, List.set_cons_zero, List.set_cons_succ, onL_lst, isA_non, isA_int_int, isA_bool_int, isA_str_int, isA_tup_int, isA_lst_int, isA_int_str, isA_bool_str, isA_str_str, isA_tup_str, isA_lst_str, isA_int_tup, isA_bool_tup, isA_str_tup, isA_tup_tup, isA_lst_tup, isA_int_bl, isA_bool_bl, isA_str_bl, isA_tup_bl, isA_lst_bl, dAdd_int, dAdd_str, dAdd_tup, dAdd_ref, dSub_int, dLt_int, dLe_int, dGt_int, dGe_int, dMul_int, dMul_str, dMul_ref, dMod_int, dFdiv_int, dPow_int, dIsN_, dNotN_, isNon_int, isNon_non, dEq_str, dEq_int, dNe_str, dNe_int, dIn_sign, dIx_str, dIx_tup, dIx_scr, dIx_ref, dCut_str, dCut_tup, dCut_scr, dCut_ref, bLen_str, bLen_tup, bLen_ref, bInt_int, bInt_bl, bTup_tup, bTup_ref, bList_str, bList_tup, bList_ref, tyD_str, mAppend_ref, mExtend_ref, tyL, dSetL_ref, mJoin_ref, bMin_ref, bMax_ref, atI_0, atI_1, atI_2, hp, onL_lst]
        show [D.str k, .str x, .int (0 + (j : Int)), .int (a + (i : Int))].length = 4 ∧ sp__law_torn [D.str k, .str x, .int (0 + (j : Int)), .int (a + (i : Int))] g _ _
        refine ⟨rfl, ⟨_, _, rfl, hk⟩, j, a.toNat + i, by omega, by omega, by omega, by omega, ?_⟩
        simp only [hp, onL_lst]
        have ej : (tearsN k x (a.toNat + i)).take (j + 1) = (tearsN k x (a.toNat + i)).take j ++ [tearW k x j (a.toNat + i)] := by
          rw [List.take_succ_eq_append_getElem (by omega)]
          simp [tearsN]
        rw [ej]
        refine ⟨?_, by omega, ⟨_, rfl⟩, less_upd l np, by simp⟩
        rw [List.length_map, List.length_append]
        have := List.length_take_le j (tearsN k x (a.toNat + i))
        omega
end Tw

namespace Tw
open PySem PySem.Spec PyProof.Rows L2
theorem fgt_own2 {Q : DK} {h g : DHp} {p u : Addr} {o w : DO} (l : Less h g) (e : g p = some o) (n : h p = none) (nu : g u = none) (q : ∀ u, put h p o u = none → Q (.ref u) (put (put h p o) u w)) : Fgt Q (.ref u) (put g u w) := by
  have l2 : Less (put h p o) g := fun a x ea => by
    by_cases z : a = p
    · subst z; rw [put_same] at ea; rw [e]; exact ea
    · rw [put_ne z] at ea; exact l a x ea
  exact ⟨put (put h p o) u w, less_both l2, q u (less_none l2 nu)⟩
theorem none_old {h : DHp} {p r : Addr} {o : DO} (n : put h p o r = none) : h r = none ∧ p ≠ r := by
  by_cases z : r = p
  · subst z; rw [put_same] at n; cases n
  · rw [put_ne z] at n; exact ⟨n, fun e => z e.symm⟩
theorem ixN_mod {n : Nat} (i : Int) (hn : 0 < n) : ∃ j, j < n ∧ ixN n (i % n) = some j ∧ i % n = j := by
  have h0 : 0 ≤ i % n := Int.emod_nonneg _ (by omega)
  have h1 : i % n < n := Int.emod_lt_of_pos _ (by omega)
  refine ⟨(i % n).toNat, by omega, ?_, by omega⟩
  unfold ixN
  rw [if_pos h0, if_pos h1]
def sp__law_open : SpD := fun ds h Q _ => match ds with
  | [.scr ns] => ns.length ≤ 1000 ∧ ∀ (xs : List Int) c p, h c = none → put h c (.lst (xs.map D.int)) p = none → Q (.ref p) (put (put h c (.lst (xs.map D.int))) p (.lst [.ref c, .int 0, .int 0]))
  | _ => False
/-- _law_open(script); slots: script 0, cells 1, k 2, cell 3 -/
def N__law_open : List Str := ["script", "cells", "k", "cell"]
def m__law_open : MS := dSeq (dAsg (dCB bList (dCons (dSl (dVar 0) (dNoPart) (dPart (dC (.int 12)))) (dNil))) (dName 1)) (dSeq (dFor (dIEnum (dCons (dSl (dVar 0) (dPart (dC (.int 12))) (dPart (dC (.int 63)))) (dNil))) (dgTup 2 (dgCons (dName 2) (dgCons (dName 3) (dgNil)))) (dSetI (dVar 1) (dOp dMod (dCB bInt (dCons (dVar 2) (dNil))) (dC (.int 12))) (dOp dAdd (dOp dIx (dVar 1) (dOp dMod (dCB bInt (dCons (dVar 2) (dNil))) (dC (.int 12)))) (dVar 3)) dSetL)) (dRet (dLst (dCons (dVar 1) (dCons (dC (.int 0)) (dCons (dC (.int 0)) (dNil)))))))
theorem st__law_open (a0 : D) : startD N__law_open [a0] = [some a0, none, none, none] := rfl
theorem ok__law_open (ds : List D) (h : DHp) (Q : DK) (E : DX) (hn : ds.length = 1) (q : sp__law_open ds h Q E) : m__law_open (endsD Q E) (startD N__law_open ds) h := by
  match ds, q with
  | [.scr ns], ⟨hl2, q⟩ =>
    have hs := sizeLine_eq
    simp only [m__law_open, st__law_open, forall_const, true_implies, false_implies, implies_true, and_true, true_and, reduceCtorEq, Bool.not_true, Bool.not_false, Bool.true_xor, Bool.false_xor, Option.some.injEq, exists_eq_left', put_same, onB_bl, dSeq, dNext, dBreak, dDrop, dRet, dRetN, dIfS, dName, dgNil, dgCons, dgTup, dAsg, dPar, dPar3, dSetI, dgSub, dRaise, dVar, dC, dOp, dTest, dAnd, dOr, dNot, dAndV, dOrV, dNotV, dIf, dNil, dCons, dTup, dLst, dCall, dCB, dMt, dMt0, dInC, dIxC, dChain, dNeg, dNoPart, dPart, dSl, exE, dIsA, dCat, catchD, subE, Ex.ix, endsD, dLc, dISeq, dIRng1, dIRng2, dIEnum, dFor, dDcT, dDcK, dCallV, mStarts_str, List.getElem?_cons_zero, List.getElem?_cons_succ, List.set_cons_zero, List.set_cons_succ, onL_lst, isA_non, isA_int_int, isA_bool_int, isA_str_int, isA_tup_int, isA_lst_int, isA_int_str, isA_bool_str, isA_str_str, isA_tup_str, isA_lst_str, isA_int_tup, isA_bool_tup, isA_str_tup, isA_tup_tup, isA_lst_tup, isA_int_bl, isA_bool_bl, isA_str_bl, isA_tup_bl, isA_lst_bl, dAdd_int, dAdd_str, dAdd_tup, dAdd_ref, dSub_int, dLt_int, dLe_int, dGt_int, dGe_int, dMul_int, dMul_str, dMul_ref, dMod_int, dFdiv_int, dPow_int, dIsN_, dNotN_, isNon_int, isNon_non, dEq_str, dEq_int, dNe_str, dNe_int, dIn_sign, dIx_str, dIx_tup, dIx_scr, dIx_ref, dCut_str, dCut_tup, dCut_scr, dCut_ref, bLen_str, bLen_tup, bLen_ref, bInt_int, bInt_bl, bTup_tup, bTup_ref, bList_str, bList_tup, bList_ref, tyD_str, mAppend_ref, mExtend_ref, tyL, dSetL_ref, mJoin_ref, bMin_ref, bMax_ref, atI_0, atI_1, atI_2]
    intro p0 n0 p n1 p2 n2
    have e0 : 12 ≤ ns.length → (cutD ns none (some 12)).length = 12 := fun hl => by
      unfold cutD
      rw [HT.sIx_none, show (12 : Int) = ((12 : Nat) : Int) from rfl, HT.sIx_nat, Nat.min_eq_left hl, List.length_take, List.length_drop]
      omega
    have e9 : ∀ v, v ∈ cutD ns (some 12) (some 63) → 12 ≤ ns.length := fun v hv => by
      unfold cutD at hv
      rw [show (12 : Int) = ((12 : Nat) : Int) from rfl, HT.sIx_nat] at hv
      have h1 := List.mem_of_mem_take hv
      have h2 : 0 < (ns.drop (min 12 ns.length)).length := List.length_pos_of_mem h1
      rw [List.length_drop] at h2
      omega
    generalize cutD ns none (some 12) = c0 at e0 n1 n2
    refine ⟨_, rfl, ?_⟩
    obtain ⟨n1', z1⟩ := none_old n1
    obtain ⟨n2a, z2⟩ := none_old n2
    refine forB_inv (fun i δ h' => (∃ s2 s3, δ = [some (.scr ns), some (.ref p), s2, s3]) ∧ Less h h' ∧ h' p2 = some (.lst ((cutD ns (some 12) (some 63)).map D.int)) ∧ ∃ xs : List Int, (12 ≤ ns.length → xs.length = 12) ∧ h' p = some (.lst (xs.map D.int)))
      ⟨⟨_, _, rfl⟩, less_new (less_new (less_new Less.refl n0) n1) n2, put_same, c0, e0, put_old put_same n2⟩ (fun _ _ _ v => v.2.2.1) ?_ ?_
    · rintro δ h' ⟨⟨s2, s3, rfl⟩, l, _, xs, ex, hp⟩
      simp only [forall_const, true_implies, false_implies, implies_true, and_true, true_and, reduceCtorEq, Bool.not_true, Bool.not_false, Bool.true_xor, Bool.false_xor, Option.some.injEq, exists_eq_left', put_same, onB_bl, dSeq, dNext, dBreak, dDrop, dRet, dRetN, dIfS, dName, dgNil, dgCons, dgTup, dAsg, dPar, dPar3, dSetI, dgSub, dRaise, dVar, dC, dOp, dTest, dAnd, dOr, dNot, dAndV, dOrV, dNotV, dIf, dNil, dCons, dTup, dLst, dCall, dCB, dMt, dMt0, dInC, dIxC, dChain, dNeg, dNoPart, dPart, dSl, exE, dIsA, dCat, catchD, subE, Ex.ix, endsD, dLc, dISeq, dIRng1, dIRng2, dIEnum, dFor, dDcT, dDcK, dCallV, mStarts_str, List.getElem?_cons_zero, List.getElem?_cons_succ, List.set_cons_zero, List.set_cons_succ, onL_lst, isA_non, isA_int_int, isA_bool_int, isA_str_int, isA_tup_int, isA_lst_int, isA_int_str, isA_bool_str, isA_str_str, isA_tup_str, isA_lst_str, isA_int_tup, isA_bool_tup, isA_str_tup, isA_tup_tup, isA_lst_tup, isA_int_bl, isA_bool_bl, isA_str_bl, isA_tup_bl, isA_lst_bl, dAdd_int, dAdd_str, dAdd_tup, dAdd_ref, dSub_int, dLt_int, dLe_int, dGt_int, dGe_int, dMul_int, dMul_str, dMul_ref, dMod_int, dFdiv_int, dPow_int, dIsN_, dNotN_, isNon_int, isNon_non, dEq_str, dEq_int, dNe_str, dNe_int, dIn_sign, dIx_str, dIx_tup, dIx_scr, dIx_ref, dCut_str, dCut_tup, dCut_scr, dCut_ref, bLen_str, bLen_tup, bLen_ref, bInt_int, bInt_bl, bTup_tup, bTup_ref, bList_str, bList_tup, bList_ref, tyD_str, mAppend_ref, mExtend_ref, tyL, dSetL_ref, mJoin_ref, bMin_ref, bMax_ref, atI_0, atI_1, atI_2]
      refine ⟨by show (3 : Nat) ≤ sizeLine; omega, fun u nu => ?_⟩
      exact fgt_own2 l hp n1' nu fun u nu => q xs p u n1' nu
    · rintro i d δ h' hd ⟨⟨s2, s3, rfl⟩, l, h2, xs, ex, hp⟩
      have hd' : ∃ v : Int, d = .tup [.int (i : Nat), .int v] ∧ 12 ≤ ns.length := by
        unfold enumD at hd
        rw [List.getElem?_mapIdx, List.getElem?_map, Option.map_map] at hd
        obtain ⟨v, hv, rfl⟩ := Option.map_eq_some_iff.mp hd
        exact ⟨v, rfl, e9 v (List.mem_of_getElem? hv)⟩
      obtain ⟨v, rfl, hlen⟩ := hd'
      have ex := ex hlen
      obtain ⟨j, hj, ej, e2⟩ := ixN_mod (n := 12) i (by omega)
      rw [← ex] at hj
      have e2 : (i : Int) % 12 = j := e2
      have ei : atI (xs.map D.int) ((i : Int) % 12) = some (.int xs[j]) := by
        rw [e2]
        exact atI_lt (by rw [List.getElem?_map, List.getElem?_eq_getElem hj]; rfl)
      show [D.int (i : Nat), D.int v].length = 2 ∧ _
      refine ⟨rfl, ?_⟩
      simp only [forall_const, true_implies, false_implies, implies_true, and_true, true_and, reduceCtorEq, Bool.not_true, Bool.not_false, Bool.true_xor, Bool.false_xor, Option.some.injEq, exists_eq_left', put_same, onB_bl, dSeq, dNext, dBreak, dDrop, dRet, dRetN, dIfS, dName, dgNil, dgCons, dgTup, dAsg, dPar, dPar3, dSetI, dgSub, dRaise, dVar, dC, dOp, dTest, dAnd, dOr, dNot, dAndV, dOrV, dNotV, dIf, dNil, dCons, dTup, dLst, dCall, dCB, dMt, dMt0, dInC, dIxC, dChain, dNeg, dNoPart, dPart, dSl, exE, dIsA, dCat, catchD, subE, Ex.ix, endsD, dLc, dISeq, dIRng1, dIRng2, dIEnum, dFor, dDcT, dDcK, dCallV, mStarts_str, List.getElem?_cons_zero, List.getElem?_cons_succ, List.set_cons_zero, List.set_cons_succ, onL_lst, isA_non, isA_int_int, isA_bool_int, isA_str_int, isA_tup_int, isA_lst_int, isA_int_str, isA_bool_str, isA_str_str, isA_tup_str, isA_lst_str, isA_int_tup, isA_bool_tup, isA_str_tup, isA_tup_tup, isA_lst_tup, isA_int_bl, isA_bool_bl, isA_str_bl, isA_tup_bl, isA_lst_bl, dAdd_int, dAdd_str, dAdd_tup, dAdd_ref, dSub_int, dLt_int, dLe_int, dGt_int, dGe_int, dMul_int, dMul_str, dMul_ref, dMod_int, dFdiv_int, dPow_int, dIsN_, dNotN_, isNon_int, isNon_non, dEq_str, dEq_int, dNe_str, dNe_int, dIn_sign, dIx_str, dIx_tup, dIx_scr, dIx_ref, dCut_str, dCut_tup, dCut_scr, dCut_ref, bLen_str, bLen_tup, bLen_ref, bInt_int, bInt_bl, bTup_tup, bTup_ref, bList_str, bList_tup, bList_ref, tyD_str, mAppend_ref, mExtend_ref, tyL, dSetL_ref, mJoin_ref, bMin_ref, bMax_ref, atI_0, atI_1, atI_2, hp]
      refine ⟨by decide, _, ei, ?_⟩
      simp only [forall_const, true_implies, false_implies, implies_true, and_true, true_and, reduceCtorEq, Bool.not_true, Bool.not_false, Bool.true_xor, Bool.false_xor, Option.some.injEq, exists_eq_left', put_same, onB_bl, dSeq, dNext, dBreak, dDrop, dRet, dRetN, dIfS, dName, dgNil, dgCons, dgTup, dAsg, dPar, dPar3, dSetI, dgSub, dRaise, dVar, dC, dOp, dTest, dAnd, dOr, dNot, dAndV, dOrV, dNotV, dIf, dNil, dCons, dTup, dLst, dCall, dCB, dMt, dMt0, dInC, dIxC, dChain, dNeg, dNoPart, dPart, dSl, exE, dIsA, dCat, catchD, subE, Ex.ix, endsD, dLc, dISeq, dIRng1, dIRng2, dIEnum, dFor, dDcT, dDcK, dCallV, mStarts_str, List.getElem?_cons_zero, List.getElem?_cons_succ, List.set_cons_zero, List.set_cons_succ, onL_lst, isA_non, isA_int_int, isA_bool_int, isA_str_int, isA_tup_int, isA_lst_int, isA_int_str, isA_bool_str, isA_str_str, isA_tup_str, isA_lst_str, isA_int_tup, isA_bool_tup, isA_str_tup, isA_tup_tup, isA_lst_tup, isA_int_bl, isA_bool_bl, isA_str_bl, isA_tup_bl, isA_lst_bl, dAdd_int, dAdd_str, dAdd_tup, dAdd_ref, dSub_int, dLt_int, dLe_int, dGt_int, dGe_int, dMul_int, dMul_str, dMul_ref, dMod_int, dFdiv_int, dPow_int, dIsN_, dNotN_, isNon_int, isNon_non, dEq_str, dEq_int, dNe_str, dNe_int, dIn_sign, dIx_str, dIx_tup, dIx_scr, dIx_ref, dCut_str, dCut_tup, dCut_scr, dCut_ref, bLen_str, bLen_tup, bLen_ref, bInt_int, bInt_bl, bTup_tup, bTup_ref, bList_str, bList_tup, bList_ref, tyD_str, mAppend_ref, mExtend_ref, tyL, dSetL_ref, mJoin_ref, bMin_ref, bMax_ref, atI_0, atI_1, atI_2, hp]
      refine ⟨by decide, j, by rw [List.length_map, ex]; exact ej, ⟨_, _, rfl⟩, less_upd l n1', by rw [put_ne (Ne.symm z2)]; exact h2, xs.set j (xs[j] + v), fun _ => by simp [ex], by simp [List.map_set]⟩
def PR1 : List D := [.int 2147483629, .int 2147483587, .int 2147483579, .int 2147483563, .int 2147483549, .int 2147483543, .int 2147483497, .int 2147483489]
def PR2 : List D := [.int 2147483477, .int 2147483423, .int 2147483399, .int 2147483353, .int 2147483323]
theorem prime_at (i : Int) : ∃ q : Int, atI (PR1 ++ PR2) (i % 13) = some (.int q) ∧ 0 < q ∧ q < 2147483648 := by
  have : i % 13 = 0 ∨ i % 13 = 1 ∨ i % 13 = 2 ∨ i % 13 = 3 ∨ i % 13 = 4 ∨ i % 13 = 5 ∨ i % 13 = 6 ∨ i % 13 = 7 ∨ i % 13 = 8 ∨ i % 13 = 9 ∨ i % 13 = 10 ∨ i % 13 = 11 ∨ i % 13 = 12 := by omega
  rcases this with e | e | e | e | e | e | e | e | e | e | e | e | e <;> rw [e] <;> exact ⟨_, rfl, by decide, by decide⟩
def sp__law_spread : SpD := fun ds h Q _ => match ds with
  | [.int c, .int k] => 0 ≤ k ∧ k ≤ 1000000 ∧ ∀ v : Int, Q (.int v) h
  | _ => False
/-- _law_spread(cell, k); slots: cell 0, k 1, primes 2, one 3, two 4, three 5 -/
def N__law_spread : List Str := ["cell", "k", "primes", "one", "two", "three"]
def m__law_spread : MS := dSeq (dIfS (dTest (dOp dGe (dVar 0) (dOp dPow (dC (.int 10)) (dC (.int 18))))) (dRet (dVar 0)) (dNext)) (dSeq (dAsg (dLst (dCons (dC (.int 2147483629)) (dCons (dC (.int 2147483587)) (dCons (dC (.int 2147483579)) (dCons (dC (.int 2147483563)) (dCons (dC (.int 2147483549)) (dCons (dC (.int 2147483543)) (dCons (dC (.int 2147483497)) (dCons (dC (.int 2147483489)) (dNil)))))))))) (dName 2)) (dSeq (dAsg (dOp dAdd (dVar 2) (dLst (dCons (dC (.int 2147483477)) (dCons (dC (.int 2147483423)) (dCons (dC (.int 2147483399)) (dCons (dC (.int 2147483353)) (dCons (dC (.int 2147483323)) (dNil)))))))) (dName 2)) (dSeq (dAsg (dOp dMul (dOp dMod (dCB bInt (dCons (dVar 0) (dNil))) (dC (.int 1000000007))) (dOp dAdd (dOp dMul (dC (.int 2)) (dVar 1)) (dC (.int 69069)))) (dName 3)) (dSeq (dAsg (dOp dMod (dCB bInt (dCons (dOp dPow (dOp dAdd (dOp dAdd (dVar 3) (dOp dMul (dVar 1) (dC (.int 40503)))) (dC (.int 977))) (dC (.int 3))) (dNil))) (dOp dIx (dVar 2) (dOp dMod (dCB bInt (dCons (dVar 1) (dNil))) (dC (.int 13))))) (dName 3)) (dSeq (dAsg (dOp dMod (dCB bInt (dCons (dOp dPow (dOp dAdd (dOp dAdd (dOp dMul (dVar 3) (dOp dAdd (dVar 1) (dC (.int 3)))) (dOp dMod (dCB bInt (dCons (dVar 0) (dNil))) (dC (.int 65537)))) (dC (.int 5))) (dC (.int 5))) (dNil))) (dOp dIx (dVar 2) (dOp dMod (dCB bInt (dCons (dOp dAdd (dVar 1) (dC (.int 5))) (dNil))) (dC (.int 13))))) (dName 4)) (dSeq (dAsg (dOp dMod (dCB bInt (dCons (dOp dPow (dOp dAdd (dOp dAdd (dVar 4) (dOp dMod (dCB bInt (dCons (dVar 3) (dNil))) (dC (.int 1009)))) (dVar 1)) (dC (.int 3))) (dNil))) (dOp dIx (dVar 2) (dOp dMod (dCB bInt (dCons (dOp dAdd (dVar 1) (dC (.int 7))) (dNil))) (dC (.int 13))))) (dName 5)) (dRet (dOp dAdd (dOp dMul (dOp dAdd (dOp dMul (dVar 3) (dC (.int 2147483647))) (dVar 4)) (dC (.int 2147483647))) (dVar 5)))))))))
theorem st__law_spread (a0 a1 : D) : startD N__law_spread [a0, a1] = [some a0, some a1, none, none, none, none] := rfl
theorem ok__law_spread (ds : List D) (h : DHp) (Q : DK) (E : DX) (hn : ds.length = 2) (q : sp__law_spread ds h Q E) : m__law_spread (endsD Q E) (startD N__law_spread ds) h := by
  match ds, q with
  | [.int c, .int k], ⟨k0, k1, q⟩ =>
    have hs := sizeLine_eq
    simp only [m__law_spread, st__law_spread, forall_const, true_implies, false_implies, implies_true, and_true, true_and, reduceCtorEq, Bool.not_true, Bool.not_false, Bool.true_xor, Bool.false_xor, Option.some.injEq, exists_eq_left', put_same, onB_bl, dSeq, dNext, dBreak, dDrop, dRet, dRetN, dIfS, dName, dgNil, dgCons, dgTup, dAsg, dPar, dPar3, dSetI, dgSub, dRaise, dVar, dC, dOp, dTest, dAnd, dOr, dNot, dAndV, dOrV, dNotV, dIf, dNil, dCons, dTup, dLst, dCall, dCB, dMt, dMt0, dInC, dIxC, dChain, dNeg, dNoPart, dPart, dSl, exE, dIsA, dCat, catchD, subE, Ex.ix, endsD, dLc, dISeq, dIRng1, dIRng2, dIEnum, dFor, dDcT, dDcK, dCallV, mStarts_str, List.getElem?_cons_zero, List.getElem?_cons_succ, List.set_cons_zero, List.set_cons_succ, onL_lst, isA_non, isA_int_int, isA_bool_int, isA_str_int, isA_tup_int, isA_lst_int, isA_int_str, isA_bool_str, isA_str_str, isA_tup_str, isA_lst_str, isA_int_tup, isA_bool_tup, isA_str_tup, isA_tup_tup, isA_lst_tup, isA_int_bl, isA_bool_bl, isA_str_bl, isA_tup_bl, isA_lst_bl, dAdd_int, dAdd_str, dAdd_tup, dAdd_ref, dSub_int, dLt_int, dLe_int, dGt_int, dGe_int, dMul_int, dMul_str, dMul_ref, dMod_int, dFdiv_int, dPow_int, dIsN_, dNotN_, isNon_int, isNon_non, dEq_str, dEq_int, dNe_str, dNe_int, dIn_sign, dIx_str, dIx_tup, dIx_scr, dIx_ref, dCut_str, dCut_tup, dCut_scr, dCut_ref, bLen_str, bLen_tup, bLen_ref, bInt_int, bInt_bl, bTup_tup, bTup_ref, bList_str, bList_tup, bList_ref, tyD_str, mAppend_ref, mExtend_ref, tyL, dSetL_ref, mJoin_ref, bMin_ref, bMax_ref, atI_0, atI_1, atI_2]
    generalize ea : ([.int 2147483629, .int 2147483587, .int 2147483579, .int 2147483563, .int 2147483549, .int 2147483543, .int 2147483497, .int 2147483489] : List D) = A
    generalize eb : ([.int 2147483477, .int 2147483423, .int 2147483399, .int 2147483353, .int 2147483323] : List D) = B
    have pa : ∀ i : Int, ∃ q : Int, atI (A ++ B) (i % 13) = some (.int q) ∧ 0 < q ∧ q < 2147483648 := by
      rw [← ea, ← eb]
      exact prime_at
    have la : A.length = 8 := by rw [← ea]; rfl
    have lb : B.length = 5 := by rw [← eb]; rfl
    clear ea eb
    refine ⟨by decide, fun _ => fgt_here (q c), fun _ => ⟨by omega, fun p np => ⟨by omega, fun p1 n1 => ?_⟩⟩⟩
    have ep := put_old (o := .lst B) (put_same (h := h) (a := p) (o := .lst A)) n1
    rw [ep, onL_lst]
    refine ⟨by omega, fun p2 n2 => ?_⟩
    have lg : Less h (put (put (put h p (.lst A)) p1 (.lst B)) p2 (.lst (A ++ B))) := less_new (less_new (less_new Less.refl np) n1) n2
    have eg : put (put (put h p (.lst A)) p1 (.lst B)) p2 (.lst (A ++ B)) p2 = some (.lst (A ++ B)) := put_same
    generalize put (put (put h p (.lst A)) p1 (.lst B)) p2 (.lst (A ++ B)) = g at lg eg
    have m0 : 0 ≤ c % 1000000007 := by omega
    have m1 : c % 1000000007 ≤ 1000000006 := by omega
    have m2 : 0 ≤ c % 1000000007 * (2 * k + 69069) := Int.mul_nonneg m0 (by omega)
    have m3 : c % 1000000007 * (2 * k + 69069) ≤ 1000000006 * 2069069 := Int.mul_le_mul m1 (by omega) (by omega) (by omega)
    obtain ⟨q1, e1, p1a, p1b⟩ := pa k
    refine ⟨by decide, .inl (by decide), .inl ⟨by omega, by omega⟩, .inr (by decide), ⟨by decide, by decide, by omega⟩, by decide, _, e1, ?_⟩
    simp only [forall_const, true_implies, false_implies, implies_true, and_true, true_and, reduceCtorEq, Bool.not_true, Bool.not_false, Bool.true_xor, Bool.false_xor, Option.some.injEq, exists_eq_left', put_same, onB_bl, dSeq, dNext, dBreak, dDrop, dRet, dRetN, dIfS, dName, dgNil, dgCons, dgTup, dAsg, dPar, dPar3, dSetI, dgSub, dRaise, dVar, dC, dOp, dTest, dAnd, dOr, dNot, dAndV, dOrV, dNotV, dIf, dNil, dCons, dTup, dLst, dCall, dCB, dMt, dMt0, dInC, dIxC, dChain, dNeg, dNoPart, dPart, dSl, exE, dIsA, dCat, catchD, subE, Ex.ix, endsD, dLc, dISeq, dIRng1, dIRng2, dIEnum, dFor, dDcT, dDcK, dCallV, mStarts_str, List.getElem?_cons_zero, List.getElem?_cons_succ, List.set_cons_zero, List.set_cons_succ, onL_lst, isA_non, isA_int_int, isA_bool_int, isA_str_int, isA_tup_int, isA_lst_int, isA_int_str, isA_bool_str, isA_str_str, isA_tup_str, isA_lst_str, isA_int_tup, isA_bool_tup, isA_str_tup, isA_tup_tup, isA_lst_tup, isA_int_bl, isA_bool_bl, isA_str_bl, isA_tup_bl, isA_lst_bl, dAdd_int, dAdd_str, dAdd_tup, dAdd_ref, dSub_int, dLt_int, dLe_int, dGt_int, dGe_int, dMul_int, dMul_str, dMul_ref, dMod_int, dFdiv_int, dPow_int, dIsN_, dNotN_, isNon_int, isNon_non, dEq_str, dEq_int, dNe_str, dNe_int, dIn_sign, dIx_str, dIx_tup, dIx_scr, dIx_ref, dCut_str, dCut_tup, dCut_scr, dCut_ref, bLen_str, bLen_tup, bLen_ref, bInt_int, bInt_bl, bTup_tup, bTup_ref, bList_str, bList_tup, bList_ref, tyD_str, mAppend_ref, mExtend_ref, tyL, dSetL_ref, mJoin_ref, bMin_ref, bMax_ref, atI_0, atI_1, atI_2, eg]
    generalize (c % 1000000007 * (2 * k + 69069) + k * 40503 + 977) ^ Int.toNat 3 = one
    have o0 : 0 ≤ one % q1 := Int.emod_nonneg _ (by omega)
    have o1 : one % q1 < q1 := Int.emod_lt_of_pos _ p1a
    generalize one % q1 = one at o0 o1
    have m4 : 0 ≤ one * (k + 3) := Int.mul_nonneg o0 (by omega)
    have m5 : one * (k + 3) ≤ 2147483647 * 1000003 := Int.mul_le_mul (by omega) (by omega) (by omega) (by omega)
    obtain ⟨q2, e2, p2a, p2b⟩ := pa (k + 5)
    refine ⟨p1a, .inl ⟨by omega, by omega⟩, by decide, ⟨by decide, by decide, by omega⟩, by decide, _, e2, ?_⟩
    simp only [forall_const, true_implies, false_implies, implies_true, and_true, true_and, reduceCtorEq, Bool.not_true, Bool.not_false, Bool.true_xor, Bool.false_xor, Option.some.injEq, exists_eq_left', put_same, onB_bl, dSeq, dNext, dBreak, dDrop, dRet, dRetN, dIfS, dName, dgNil, dgCons, dgTup, dAsg, dPar, dPar3, dSetI, dgSub, dRaise, dVar, dC, dOp, dTest, dAnd, dOr, dNot, dAndV, dOrV, dNotV, dIf, dNil, dCons, dTup, dLst, dCall, dCB, dMt, dMt0, dInC, dIxC, dChain, dNeg, dNoPart, dPart, dSl, exE, dIsA, dCat, catchD, subE, Ex.ix, endsD, dLc, dISeq, dIRng1, dIRng2, dIEnum, dFor, dDcT, dDcK, dCallV, mStarts_str, List.getElem?_cons_zero, List.getElem?_cons_succ, List.set_cons_zero, List.set_cons_succ, onL_lst, isA_non, isA_int_int, isA_bool_int, isA_str_int, isA_tup_int, isA_lst_int, isA_int_str, isA_bool_str, isA_str_str, isA_tup_str, isA_lst_str, isA_int_tup, isA_bool_tup, isA_str_tup, isA_tup_tup, isA_lst_tup, isA_int_bl, isA_bool_bl, isA_str_bl, isA_tup_bl, isA_lst_bl, dAdd_int, dAdd_str, dAdd_tup, dAdd_ref, dSub_int, dLt_int, dLe_int, dGt_int, dGe_int, dMul_int, dMul_str, dMul_ref, dMod_int, dFdiv_int, dPow_int, dIsN_, dNotN_, isNon_int, isNon_non, dEq_str, dEq_int, dNe_str, dNe_int, dIn_sign, dIx_str, dIx_tup, dIx_scr, dIx_ref, dCut_str, dCut_tup, dCut_scr, dCut_ref, bLen_str, bLen_tup, bLen_ref, bInt_int, bInt_bl, bTup_tup, bTup_ref, bList_str, bList_tup, bList_ref, tyD_str, mAppend_ref, mExtend_ref, tyL, dSetL_ref, mJoin_ref, bMin_ref, bMax_ref, atI_0, atI_1, atI_2, eg]
    generalize (one * (k + 3) + c % 65537 + 5) ^ Int.toNat 5 = two
    have t0 : 0 ≤ two % q2 := Int.emod_nonneg _ (by omega)
    have t1 : two % q2 < q2 := Int.emod_lt_of_pos _ p2a
    generalize two % q2 = two at t0 t1
    obtain ⟨q3, e3, p3a, p3b⟩ := pa (k + 7)
    refine ⟨p2a, by decide, ⟨by decide, by decide, by omega⟩, by decide, _, e3, ?_⟩
    simp only [forall_const, true_implies, false_implies, implies_true, and_true, true_and, reduceCtorEq, Bool.not_true, Bool.not_false, Bool.true_xor, Bool.false_xor, Option.some.injEq, exists_eq_left', put_same, onB_bl, dSeq, dNext, dBreak, dDrop, dRet, dRetN, dIfS, dName, dgNil, dgCons, dgTup, dAsg, dPar, dPar3, dSetI, dgSub, dRaise, dVar, dC, dOp, dTest, dAnd, dOr, dNot, dAndV, dOrV, dNotV, dIf, dNil, dCons, dTup, dLst, dCall, dCB, dMt, dMt0, dInC, dIxC, dChain, dNeg, dNoPart, dPart, dSl, exE, dIsA, dCat, catchD, subE, Ex.ix, endsD, dLc, dISeq, dIRng1, dIRng2, dIEnum, dFor, dDcT, dDcK, dCallV, mStarts_str, List.getElem?_cons_zero, List.getElem?_cons_succ, List.set_cons_zero, List.set_cons_succ, onL_lst, isA_non, isA_int_int, isA_bool_int, isA_str_int, isA_tup_int, isA_lst_int, isA_int_str, isA_bool_str, isA_str_str, isA_tup_str, isA_lst_str, isA_int_tup, isA_bool_tup, isA_str_tup, isA_tup_tup, isA_lst_tup, isA_int_bl, isA_bool_bl, isA_str_bl, isA_tup_bl, isA_lst_bl, dAdd_int, dAdd_str, dAdd_tup, dAdd_ref, dSub_int, dLt_int, dLe_int, dGt_int, dGe_int, dMul_int, dMul_str, dMul_ref, dMod_int, dFdiv_int, dPow_int, dIsN_, dNotN_, isNon_int, isNon_non, dEq_str, dEq_int, dNe_str, dNe_int, dIn_sign, dIx_str, dIx_tup, dIx_scr, dIx_ref, dCut_str, dCut_tup, dCut_scr, dCut_ref, bLen_str, bLen_tup, bLen_ref, bInt_int, bInt_bl, bTup_tup, bTup_ref, bList_str, bList_tup, bList_ref, tyD_str, mAppend_ref, mExtend_ref, tyL, dSetL_ref, mJoin_ref, bMin_ref, bMax_ref, atI_0, atI_1, atI_2]
    exact ⟨p3a, .inr (by decide), .inr (by decide), fgt_less lg (q _)⟩
/-! ### the pen -/
/-- a pen at p: its cells, its place below N, its number -/
def Pen (h : DHp) (p : Addr) (N : Int) : Prop := ∃ (c : Addr) (k v : Int) (ns : List Int), h p = some (.lst [.ref c, .int k, .int v]) ∧ h c = some (.lst (ns.map D.int)) ∧ 0 ≤ k ∧ k ≤ N
/-- the pen has gone on, by at most m places -/
def Moved (h : DHp) (p : Addr) (m : Int) (g : DHp) : Prop := ∃ (c : Addr) (k v k' v' : Int), h p = some (.lst [.ref c, .int k, .int v]) ∧ g = put h p (.lst [.ref c, .int k', .int v']) ∧ k ≤ k' ∧ k' ≤ k + m
def sp__law_take : SpD := fun ds h Q _ => match ds with
  | [.ref p, .int many] => Pen h p 999999 ∧ 0 < many ∧ many < 1073741824 ∧ ∀ n g, 0 ≤ n → n < many → Moved h p 1 g → Q (.int n) g
  | _ => False
/-- _law_take(pen, many); slots: pen 0, many 1, found 2, k 3, cell 4 -/
def N__law_take : List Str := ["pen", "many", "found", "k", "cell"]
def m__law_take : MS := dSeq (dIfS (dTest (dOp dLt (dOp dIx (dVar 0) (dC (.int 2))) (dVar 1))) (dSeq (dAsg (dOp dIx (dVar 0) (dC (.int 1))) (dName 3)) (dSeq (dAsg (dC (.int 0)) (dName 4)) (dSeq (dIfS (dTest (dOp dLt (dVar 3) (dCB bLen (dCons (dOp dIx (dVar 0) (dC (.int 0))) (dNil))))) (dAsg (dOp dIx (dOp dIx (dVar 0) (dC (.int 0))) (dVar 3)) (dName 4)) (dIfS (dTest (dOp dGt (dCB bLen (dCons (dOp dIx (dVar 0) (dC (.int 0))) (dNil))) (dC (.int 0)))) (dAsg (dOp dMod (dCB bInt (dCons (dOp dIx (dOp dIx (dVar 0) (dC (.int 0))) (dOp dMod (dCB bInt (dCons (dOp dAdd (dOp dMul (dVar 3) (dC (.int 5))) (dC (.int 3))) (dNil))) (dCB bLen (dCons (dOp dIx (dVar 0) (dC (.int 0))) (dNil))))) (dNil))) (dOp dAdd (dOp dPow (dC (.int 10)) (dC (.int 17))) (dVar 3))) (dName 4)) (dNext))) (dSeq (dSetI (dVar 0) (dC (.int 1)) (dOp dAdd (dVar 3) (dC (.int 1))) dSetL) (dSetI (dVar 0) (dC (.int 2)) (dCall 2 sp__law_spread (dCons (dVar 4) (dCons (dVar 3) (dNil)))) dSetL))))) (dNext)) (dSeq (dAsg (dOp dMod (dCB bInt (dCons (dOp dIx (dVar 0) (dC (.int 2))) (dNil))) (dVar 1)) (dName 2)) (dSeq (dSetI (dVar 0) (dC (.int 2)) (dOp dFdiv (dOp dIx (dVar 0) (dC (.int 2))) (dVar 1)) dSetL) (dRet (dVar 2))))
theorem st__law_take (a0 a1 : D) : startD N__law_take [a0, a1] = [some a0, some a1, none, none, none] := rfl
theorem ok__law_take (ds : List D) (h : DHp) (Q : DK) (E : DX) (hn : ds.length = 2) (q : sp__law_take ds h Q E) : m__law_take (endsD Q E) (startD N__law_take ds) h := by
  match ds, q with
  | [.ref p, .int many], ⟨⟨c, k, v, ns, hp, hc, k0, k1⟩, m0, m1, q⟩ =>
    have hs := sizeLine_eq
    have hcp : c ≠ p := fun z => by
      subst z
      rw [hp] at hc
      cases ns with
      | nil => simp at hc
      | cons n ns => simp at hc
    have mv : ∀ k' v' : Int, k ≤ k' → k' ≤ k + 1 → Moved h p 1 (put h p (.lst [.ref c, .int k', .int v'])) := fun k' v' h1 h2 => ⟨c, k, v, k', v', hp, rfl, h1, h2⟩
    have md : ∀ v' : Int, 0 ≤ v' % many ∧ v' % many < many := fun v' => ⟨Int.emod_nonneg _ (by omega), Int.emod_lt_of_pos _ m0⟩
    simp only [m__law_take, st__law_take, forall_const, true_implies, false_implies, implies_true, and_true, true_and, reduceCtorEq, Bool.not_true, Bool.not_false, Bool.true_xor, Bool.false_xor, Option.some.injEq, exists_eq_left', put_same, onB_bl, dSeq, dNext, dBreak, dDrop, dRet, dRetN, dIfS, dName, dgNil, dgCons, dgTup, dAsg, dPar, dPar3, dSetI, dgSub, dRaise, dVar, dC, dOp, dTest, dAnd, dOr, dNot, dAndV, dOrV, dNotV, dIf, dNil, dCons, dTup, dLst, dCall, dCB, dMt, dMt0, dInC, dIxC, dChain, dNeg, dNoPart, dPart, dSl, exE, dIsA, dCat, catchD, subE, Ex.ix, endsD, dLc, dISeq, dIRng1, dIRng2, dIEnum, dFor, dDcT, dDcK, dCallV, mStarts_str, List.getElem?_cons_zero, List.getElem?_cons_succ, List.set_cons_zero, List.set_cons_succ, onL_lst, isA_non, isA_int_int, isA_bool_int, isA_str_int, isA_tup_int, isA_lst_int, isA_int_str, isA_bool_str, isA_str_str, isA_tup_str, isA_lst_str, isA_int_tup, isA_bool_tup, isA_str_tup, isA_tup_tup, isA_lst_tup, isA_int_bl, isA_bool_bl, isA_str_bl, isA_tup_bl, isA_lst_bl, dAdd_int, dAdd_str, dAdd_tup, dAdd_ref, dSub_int, dLt_int, dLe_int, dGt_int, dGe_int, dMul_int, dMul_str, dMul_ref, dMod_int, dFdiv_int, dPow_int, dIsN_, dNotN_, isNon_int, isNon_non, dEq_str, dEq_int, dNe_str, dNe_int, dIn_sign, dIx_str, dIx_tup, dIx_scr, dIx_ref, dCut_str, dCut_tup, dCut_scr, dCut_ref, bLen_str, bLen_tup, bLen_ref, bInt_int, bInt_bl, bTup_tup, bTup_ref, bList_str, bList_tup, bList_ref, tyD_str, mAppend_ref, mExtend_ref, tyL, dSetL_ref, mJoin_ref, bMin_ref, bMax_ref, atI_0, atI_1, atI_2, hp, atI_0, atI_1, atI_2, hc, onL_lst, List.length_map]
    refine ⟨fun _ => ⟨fun hk => ?_, fun hk => ⟨fun hl => ?_, fun hl => ?_⟩⟩, fun _ => ⟨m0, ⟨m0, m1⟩, 2, rfl, fgt_here (q _ _ (md v).1 (md v).2 (mv _ _ (by omega) (by omega)))⟩⟩
    · have hk' : k < ns.length := by simpa using hk
      have hk2 : k.toNat < ns.length := by omega
      have e : atI (ns.map D.int) k = some (.int ns[k.toNat]) := by
        have e : (k.toNat : Int) = k := by omega
        have := atI_lt (l := ns.map D.int) (k := k.toNat) (v := .int ns[k.toNat]) (by rw [List.getElem?_map]; simp [hk2])
        rw [e] at this
        exact this
      refine ⟨_, e, 1, rfl, rfl, k0, by omega, fun v' => ?_⟩
      simp only [put_same, onL_lst, List.set, forall_const, true_implies, false_implies, implies_true, and_true, true_and, reduceCtorEq, Bool.not_true, Bool.not_false, Bool.true_xor, Bool.false_xor, Option.some.injEq, exists_eq_left', put_same, onB_bl, dSeq, dNext, dBreak, dDrop, dRet, dRetN, dIfS, dName, dgNil, dgCons, dgTup, dAsg, dPar, dPar3, dSetI, dgSub, dRaise, dVar, dC, dOp, dTest, dAnd, dOr, dNot, dAndV, dOrV, dNotV, dIf, dNil, dCons, dTup, dLst, dCall, dCB, dMt, dMt0, dInC, dIxC, dChain, dNeg, dNoPart, dPart, dSl, exE, dIsA, dCat, catchD, subE, Ex.ix, endsD, dLc, dISeq, dIRng1, dIRng2, dIEnum, dFor, dDcT, dDcK, dCallV, mStarts_str, List.getElem?_cons_zero, List.getElem?_cons_succ, List.set_cons_zero, List.set_cons_succ, onL_lst, isA_non, isA_int_int, isA_bool_int, isA_str_int, isA_tup_int, isA_lst_int, isA_int_str, isA_bool_str, isA_str_str, isA_tup_str, isA_lst_str, isA_int_tup, isA_bool_tup, isA_str_tup, isA_tup_tup, isA_lst_tup, isA_int_bl, isA_bool_bl, isA_str_bl, isA_tup_bl, isA_lst_bl, dAdd_int, dAdd_str, dAdd_tup, dAdd_ref, dSub_int, dLt_int, dLe_int, dGt_int, dGe_int, dMul_int, dMul_str, dMul_ref, dMod_int, dFdiv_int, dPow_int, dIsN_, dNotN_, isNon_int, isNon_non, dEq_str, dEq_int, dNe_str, dNe_int, dIn_sign, dIx_str, dIx_tup, dIx_scr, dIx_ref, dCut_str, dCut_tup, dCut_scr, dCut_ref, bLen_str, bLen_tup, bLen_ref, bInt_int, bInt_bl, bTup_tup, bTup_ref, bList_str, bList_tup, bList_ref, tyD_str, mAppend_ref, mExtend_ref, tyL, dSetL_ref, mJoin_ref, bMin_ref, bMax_ref, atI_0, atI_1, atI_2, put_put, atI_2]
      refine ⟨2, rfl, .int v', rfl, ?_⟩
      simp only [List.set, forall_const, true_implies, false_implies, implies_true, and_true, true_and, reduceCtorEq, Bool.not_true, Bool.not_false, Bool.true_xor, Bool.false_xor, Option.some.injEq, exists_eq_left', put_same, onB_bl, dSeq, dNext, dBreak, dDrop, dRet, dRetN, dIfS, dName, dgNil, dgCons, dgTup, dAsg, dPar, dPar3, dSetI, dgSub, dRaise, dVar, dC, dOp, dTest, dAnd, dOr, dNot, dAndV, dOrV, dNotV, dIf, dNil, dCons, dTup, dLst, dCall, dCB, dMt, dMt0, dInC, dIxC, dChain, dNeg, dNoPart, dPart, dSl, exE, dIsA, dCat, catchD, subE, Ex.ix, endsD, dLc, dISeq, dIRng1, dIRng2, dIEnum, dFor, dDcT, dDcK, dCallV, mStarts_str, List.getElem?_cons_zero, List.getElem?_cons_succ, List.set_cons_zero, List.set_cons_succ, onL_lst, isA_non, isA_int_int, isA_bool_int, isA_str_int, isA_tup_int, isA_lst_int, isA_int_str, isA_bool_str, isA_str_str, isA_tup_str, isA_lst_str, isA_int_tup, isA_bool_tup, isA_str_tup, isA_tup_tup, isA_lst_tup, isA_int_bl, isA_bool_bl, isA_str_bl, isA_tup_bl, isA_lst_bl, dAdd_int, dAdd_str, dAdd_tup, dAdd_ref, dSub_int, dLt_int, dLe_int, dGt_int, dGe_int, dMul_int, dMul_str, dMul_ref, dMod_int, dFdiv_int, dPow_int, dIsN_, dNotN_, isNon_int, isNon_non, dEq_str, dEq_int, dNe_str, dNe_int, dIn_sign, dIx_str, dIx_tup, dIx_scr, dIx_ref, dCut_str, dCut_tup, dCut_scr, dCut_ref, bLen_str, bLen_tup, bLen_ref, bInt_int, bInt_bl, bTup_tup, bTup_ref, bList_str, bList_tup, bList_ref, tyD_str, mAppend_ref, mExtend_ref, tyL, dSetL_ref, mJoin_ref, bMin_ref, bMax_ref, atI_0, atI_1, atI_2, put_same, put_put, onL_lst, atI_2]
      refine ⟨m0, ⟨m0, m1⟩, 2, rfl, fgt_here (q _ _ (md v').1 (md v').2 (mv _ _ (by omega) (by omega)))⟩
    · have hl' : 0 < ns.length := by simpa using hl
      obtain ⟨j, hj, _, e2⟩ := ixN_mod (k * 5 + 3) hl'
      have e : atI (ns.map D.int) ((k * 5 + 3) % ns.length) = some (.int ns[j]) := by
        rw [e2]
        exact atI_lt (by rw [List.getElem?_map]; simp [hj])
      refine ⟨.inl ⟨by omega, by omega⟩, by omega, _, e, ?_⟩
      simp only [forall_const, true_implies, false_implies, implies_true, and_true, true_and, reduceCtorEq, Bool.not_true, Bool.not_false, Bool.true_xor, Bool.false_xor, Option.some.injEq, exists_eq_left', put_same, onB_bl, dSeq, dNext, dBreak, dDrop, dRet, dRetN, dIfS, dName, dgNil, dgCons, dgTup, dAsg, dPar, dPar3, dSetI, dgSub, dRaise, dVar, dC, dOp, dTest, dAnd, dOr, dNot, dAndV, dOrV, dNotV, dIf, dNil, dCons, dTup, dLst, dCall, dCB, dMt, dMt0, dInC, dIxC, dChain, dNeg, dNoPart, dPart, dSl, exE, dIsA, dCat, catchD, subE, Ex.ix, endsD, dLc, dISeq, dIRng1, dIRng2, dIEnum, dFor, dDcT, dDcK, dCallV, mStarts_str, List.getElem?_cons_zero, List.getElem?_cons_succ, List.set_cons_zero, List.set_cons_succ, onL_lst, isA_non, isA_int_int, isA_bool_int, isA_str_int, isA_tup_int, isA_lst_int, isA_int_str, isA_bool_str, isA_str_str, isA_tup_str, isA_lst_str, isA_int_tup, isA_bool_tup, isA_str_tup, isA_tup_tup, isA_lst_tup, isA_int_bl, isA_bool_bl, isA_str_bl, isA_tup_bl, isA_lst_bl, dAdd_int, dAdd_str, dAdd_tup, dAdd_ref, dSub_int, dLt_int, dLe_int, dGt_int, dGe_int, dMul_int, dMul_str, dMul_ref, dMod_int, dFdiv_int, dPow_int, dIsN_, dNotN_, isNon_int, isNon_non, dEq_str, dEq_int, dNe_str, dNe_int, dIn_sign, dIx_str, dIx_tup, dIx_scr, dIx_ref, dCut_str, dCut_tup, dCut_scr, dCut_ref, bLen_str, bLen_tup, bLen_ref, bInt_int, bInt_bl, bTup_tup, bTup_ref, bList_str, bList_tup, bList_ref, tyD_str, mAppend_ref, mExtend_ref, tyL, dSetL_ref, mJoin_ref, bMin_ref, bMax_ref, atI_0, atI_1, atI_2, hp]
      refine ⟨by decide, by show 0 < (10 : Int) ^ 17 + k; omega, 1, rfl, rfl, k0, by omega, fun v' => ?_⟩
      simp only [put_same, onL_lst, List.set, forall_const, true_implies, false_implies, implies_true, and_true, true_and, reduceCtorEq, Bool.not_true, Bool.not_false, Bool.true_xor, Bool.false_xor, Option.some.injEq, exists_eq_left', put_same, onB_bl, dSeq, dNext, dBreak, dDrop, dRet, dRetN, dIfS, dName, dgNil, dgCons, dgTup, dAsg, dPar, dPar3, dSetI, dgSub, dRaise, dVar, dC, dOp, dTest, dAnd, dOr, dNot, dAndV, dOrV, dNotV, dIf, dNil, dCons, dTup, dLst, dCall, dCB, dMt, dMt0, dInC, dIxC, dChain, dNeg, dNoPart, dPart, dSl, exE, dIsA, dCat, catchD, subE, Ex.ix, endsD, dLc, dISeq, dIRng1, dIRng2, dIEnum, dFor, dDcT, dDcK, dCallV, mStarts_str, List.getElem?_cons_zero, List.getElem?_cons_succ, List.set_cons_zero, List.set_cons_succ, onL_lst, isA_non, isA_int_int, isA_bool_int, isA_str_int, isA_tup_int, isA_lst_int, isA_int_str, isA_bool_str, isA_str_str, isA_tup_str, isA_lst_str, isA_int_tup, isA_bool_tup, isA_str_tup, isA_tup_tup, isA_lst_tup, isA_int_bl, isA_bool_bl, isA_str_bl, isA_tup_bl, isA_lst_bl, dAdd_int, dAdd_str, dAdd_tup, dAdd_ref, dSub_int, dLt_int, dLe_int, dGt_int, dGe_int, dMul_int, dMul_str, dMul_ref, dMod_int, dFdiv_int, dPow_int, dIsN_, dNotN_, isNon_int, isNon_non, dEq_str, dEq_int, dNe_str, dNe_int, dIn_sign, dIx_str, dIx_tup, dIx_scr, dIx_ref, dCut_str, dCut_tup, dCut_scr, dCut_ref, bLen_str, bLen_tup, bLen_ref, bInt_int, bInt_bl, bTup_tup, bTup_ref, bList_str, bList_tup, bList_ref, tyD_str, mAppend_ref, mExtend_ref, tyL, dSetL_ref, mJoin_ref, bMin_ref, bMax_ref, atI_0, atI_1, atI_2, put_put, atI_2]
      refine ⟨2, rfl, .int v', rfl, ?_⟩
      simp only [List.set, forall_const, true_implies, false_implies, implies_true, and_true, true_and, reduceCtorEq, Bool.not_true, Bool.not_false, Bool.true_xor, Bool.false_xor, Option.some.injEq, exists_eq_left', put_same, onB_bl, dSeq, dNext, dBreak, dDrop, dRet, dRetN, dIfS, dName, dgNil, dgCons, dgTup, dAsg, dPar, dPar3, dSetI, dgSub, dRaise, dVar, dC, dOp, dTest, dAnd, dOr, dNot, dAndV, dOrV, dNotV, dIf, dNil, dCons, dTup, dLst, dCall, dCB, dMt, dMt0, dInC, dIxC, dChain, dNeg, dNoPart, dPart, dSl, exE, dIsA, dCat, catchD, subE, Ex.ix, endsD, dLc, dISeq, dIRng1, dIRng2, dIEnum, dFor, dDcT, dDcK, dCallV, mStarts_str, List.getElem?_cons_zero, List.getElem?_cons_succ, List.set_cons_zero, List.set_cons_succ, onL_lst, isA_non, isA_int_int, isA_bool_int, isA_str_int, isA_tup_int, isA_lst_int, isA_int_str, isA_bool_str, isA_str_str, isA_tup_str, isA_lst_str, isA_int_tup, isA_bool_tup, isA_str_tup, isA_tup_tup, isA_lst_tup, isA_int_bl, isA_bool_bl, isA_str_bl, isA_tup_bl, isA_lst_bl, dAdd_int, dAdd_str, dAdd_tup, dAdd_ref, dSub_int, dLt_int, dLe_int, dGt_int, dGe_int, dMul_int, dMul_str, dMul_ref, dMod_int, dFdiv_int, dPow_int, dIsN_, dNotN_, isNon_int, isNon_non, dEq_str, dEq_int, dNe_str, dNe_int, dIn_sign, dIx_str, dIx_tup, dIx_scr, dIx_ref, dCut_str, dCut_tup, dCut_scr, dCut_ref, bLen_str, bLen_tup, bLen_ref, bInt_int, bInt_bl, bTup_tup, bTup_ref, bList_str, bList_tup, bList_ref, tyD_str, mAppend_ref, mExtend_ref, tyL, dSetL_ref, mJoin_ref, bMin_ref, bMax_ref, atI_0, atI_1, atI_2, put_same, put_put, onL_lst, atI_2]
      refine ⟨m0, ⟨m0, m1⟩, 2, rfl, fgt_here (q _ _ (md v').1 (md v').2 (mv _ _ (by omega) (by omega)))⟩
    · refine ⟨1, rfl, rfl, k0, by omega, fun v' => ?_⟩
      simp only [put_same, onL_lst, List.set, forall_const, true_implies, false_implies, implies_true, and_true, true_and, reduceCtorEq, Bool.not_true, Bool.not_false, Bool.true_xor, Bool.false_xor, Option.some.injEq, exists_eq_left', put_same, onB_bl, dSeq, dNext, dBreak, dDrop, dRet, dRetN, dIfS, dName, dgNil, dgCons, dgTup, dAsg, dPar, dPar3, dSetI, dgSub, dRaise, dVar, dC, dOp, dTest, dAnd, dOr, dNot, dAndV, dOrV, dNotV, dIf, dNil, dCons, dTup, dLst, dCall, dCB, dMt, dMt0, dInC, dIxC, dChain, dNeg, dNoPart, dPart, dSl, exE, dIsA, dCat, catchD, subE, Ex.ix, endsD, dLc, dISeq, dIRng1, dIRng2, dIEnum, dFor, dDcT, dDcK, dCallV, mStarts_str, List.getElem?_cons_zero, List.getElem?_cons_succ, List.set_cons_zero, List.set_cons_succ, onL_lst, isA_non, isA_int_int, isA_bool_int, isA_str_int, isA_tup_int, isA_lst_int, isA_int_str, isA_bool_str, isA_str_str, isA_tup_str, isA_lst_str, isA_int_tup, isA_bool_tup, isA_str_tup, isA_tup_tup, isA_lst_tup, isA_int_bl, isA_bool_bl, isA_str_bl, isA_tup_bl, isA_lst_bl, dAdd_int, dAdd_str, dAdd_tup, dAdd_ref, dSub_int, dLt_int, dLe_int, dGt_int, dGe_int, dMul_int, dMul_str, dMul_ref, dMod_int, dFdiv_int, dPow_int, dIsN_, dNotN_, isNon_int, isNon_non, dEq_str, dEq_int, dNe_str, dNe_int, dIn_sign, dIx_str, dIx_tup, dIx_scr, dIx_ref, dCut_str, dCut_tup, dCut_scr, dCut_ref, bLen_str, bLen_tup, bLen_ref, bInt_int, bInt_bl, bTup_tup, bTup_ref, bList_str, bList_tup, bList_ref, tyD_str, mAppend_ref, mExtend_ref, tyL, dSetL_ref, mJoin_ref, bMin_ref, bMax_ref, atI_0, atI_1, atI_2, put_put, atI_2]
      refine ⟨2, rfl, .int v', rfl, ?_⟩
      simp only [List.set, forall_const, true_implies, false_implies, implies_true, and_true, true_and, reduceCtorEq, Bool.not_true, Bool.not_false, Bool.true_xor, Bool.false_xor, Option.some.injEq, exists_eq_left', put_same, onB_bl, dSeq, dNext, dBreak, dDrop, dRet, dRetN, dIfS, dName, dgNil, dgCons, dgTup, dAsg, dPar, dPar3, dSetI, dgSub, dRaise, dVar, dC, dOp, dTest, dAnd, dOr, dNot, dAndV, dOrV, dNotV, dIf, dNil, dCons, dTup, dLst, dCall, dCB, dMt, dMt0, dInC, dIxC, dChain, dNeg, dNoPart, dPart, dSl, exE, dIsA, dCat, catchD, subE, Ex.ix, endsD, dLc, dISeq, dIRng1, dIRng2, dIEnum, dFor, dDcT, dDcK, dCallV, mStarts_str, List.getElem?_cons_zero, List.getElem?_cons_succ, List.set_cons_zero, List.set_cons_succ, onL_lst, isA_non, isA_int_int, isA_bool_int, isA_str_int, isA_tup_int, isA_lst_int, isA_int_str, isA_bool_str, isA_str_str, isA_tup_str, isA_lst_str, isA_int_tup, isA_bool_tup, isA_str_tup, isA_tup_tup, isA_lst_tup, isA_int_bl, isA_bool_bl, isA_str_bl, isA_tup_bl, isA_lst_bl, dAdd_int, dAdd_str, dAdd_tup, dAdd_ref, dSub_int, dLt_int, dLe_int, dGt_int, dGe_int, dMul_int, dMul_str, dMul_ref, dMod_int, dFdiv_int, dPow_int, dIsN_, dNotN_, isNon_int, isNon_non, dEq_str, dEq_int, dNe_str, dNe_int, dIn_sign, dIx_str, dIx_tup, dIx_scr, dIx_ref, dCut_str, dCut_tup, dCut_scr, dCut_ref, bLen_str, bLen_tup, bLen_ref, bInt_int, bInt_bl, bTup_tup, bTup_ref, bList_str, bList_tup, bList_ref, tyD_str, mAppend_ref, mExtend_ref, tyL, dSetL_ref, mJoin_ref, bMin_ref, bMax_ref, atI_0, atI_1, atI_2, put_same, put_put, onL_lst, atI_2]
      refine ⟨m0, ⟨m0, m1⟩, 2, rfl, fgt_here (q _ _ (md v').1 (md v').2 (mv _ _ (by omega) (by omega)))⟩
end Tw

namespace Tw
open PySem PySem.Spec PyProof.Rows L2
/-- the pen has gone on by at most m places, and new objects lie beside it -/
def Mv (h : DHp) (p : Addr) (m : Int) (g : DHp) : Prop := ∃ (c : Addr) (k v k' v' : Int), h p = some (.lst [.ref c, .int k, .int v]) ∧ k ≤ k' ∧ k' ≤ k + m ∧ Less (put h p (.lst [.ref c, .int k', .int v'])) g
theorem put_self {h : DHp} {p : Addr} {o : DO} (e : h p = some o) : put h p o = h := by
  funext a
  by_cases z : a = p
  · subst z; rw [put_same, e]
  · rw [put_ne z]
theorem mv_refl {h : DHp} {p : Addr} {N : Int} (P : Pen h p N) : Mv h p 0 h := by
  obtain ⟨c, k, v, ns, hp, _, _, _⟩ := P
  exact ⟨c, k, v, k, v, hp, by omega, by omega, by rw [put_self hp]; exact Less.refl⟩
theorem mv_new {h g : DHp} {p r : Addr} {m : Int} {o : DO} (M : Mv h p m g) (n : g r = none) : Mv h p m (put g r o) := by
  obtain ⟨c, k, v, k', v', hp, h1, h2, l⟩ := M
  exact ⟨c, k, v, k', v', hp, h1, h2, less_new l n⟩
theorem mv_upd {h g : DHp} {p r : Addr} {m : Int} {o : DO} (M : Mv h p m g) (n : h r = none) : Mv h p m (put g r o) := by
  obtain ⟨c, k, v, k', v', hp, h1, h2, l⟩ := M
  refine ⟨c, k, v, k', v', hp, h1, h2, less_upd l ?_⟩
  rw [put_ne]
  · exact n
  · intro z; subst z; rw [hp] at n; cases n
theorem mv_moved {h g g' : DHp} {p : Addr} {m m' : Int} (M : Mv h p m g) (M' : Moved g p m' g') : Mv h p (m + m') g' := by
  obtain ⟨c, k, v, k', v', hp, h1, h2, l⟩ := M
  obtain ⟨c2, k2, v2, k3, v3, gp, rfl, h3, h4⟩ := M'
  have e := l p _ put_same
  rw [e] at gp
  cases gp
  refine ⟨c, k, v, k3, v3, hp, by omega, by omega, ?_⟩
  intro a x ea
  by_cases z : a = p
  · subst z; rw [put_same] at ea ⊢; exact ea
  · rw [put_ne z] at ea ⊢
    exact l a x (by rw [put_ne z]; exact ea)
theorem mv_le {h g : DHp} {p : Addr} {m m' : Int} (M : Mv h p m g) (e : m ≤ m') : Mv h p m' g := by
  obtain ⟨c, k, v, k', v', hp, h1, h2, l⟩ := M
  exact ⟨c, k, v, k', v', hp, h1, by omega, l⟩
theorem mv_pen {h g : DHp} {p : Addr} {m N : Int} (P : Pen h p N) (M : Mv h p m g) : Pen g p (N + m) := by
  obtain ⟨c, k, v, k', v', hp, h1, h2, l⟩ := M
  obtain ⟨c2, k2, v2, ns, hp2, hc, h3, h4⟩ := P
  rw [hp] at hp2
  cases hp2
  refine ⟨c, k', v', ns, l p _ put_same, l c _ ?_, by omega, by omega⟩
  rw [put_ne]
  · exact hc
  · intro z
    subst z
    rw [hp] at hc
    cases ns with
    | nil => simp at hc
    | cons n ns => simp at hc
theorem mv_end {Q : DK} {h g : DHp} {p : Addr} {m : Int} {d : D} (M : Mv h p m g) (q : ∀ g', Moved h p m g' → Q d g') : Fgt Q d g := by
  obtain ⟨c, k, v, k', v', hp, h1, h2, l⟩ := M
  exact fgt_less l (q _ ⟨c, k, v, k', v', hp, rfl, h1, h2⟩)
theorem pen_le {h : DHp} {p : Addr} {N N' : Int} (P : Pen h p N) (e : N ≤ N') : Pen h p N' := by
  obtain ⟨c, k, v, ns, hp, hc, h1, h2⟩ := P
  exact ⟨c, k, v, ns, hp, hc, h1, by omega⟩
theorem pen_new {h : DHp} {p r : Addr} {N : Int} (P : Pen h p N) (n : h r = none) : p ≠ r := by
  obtain ⟨c, k, v, ns, hp, hc, h1, h2⟩ := P
  intro z
  subst z
  rw [hp] at n
  cases n
theorem moved_old {h g : DHp} {p a : Addr} {m : Int} {o : DO} (M : Moved h p m g) (e : h a = some o) (n : a ≠ p) : g a = some o := by
  obtain ⟨c, k, v, k', v', hp, rfl, h1, h2⟩ := M
  rw [put_ne n]
  exact e
theorem moved_none {h g : DHp} {p a : Addr} {m : Int} (M : Moved h p m g) (e : h a = none) : g a = none := by
  obtain ⟨c, k, v, k', v', hp, rfl, h1, h2⟩ := M
  rw [put_ne]
  · exact e
  · intro z; subst z; rw [hp] at e; cases e
def sp__law_one_of : SpD := fun ds h Q _ => match ds with
  | [.ref p, .str x] => Pen h p 999999 ∧ x ≠ [] ∧ x.length ≤ 10000 ∧ ∀ c g, c ∈ x → Moved h p 1 g → Q (.str [c]) g
  | [.ref p, .ref a] => a ≠ p ∧ ∃ ds, h a = some (.lst ds) ∧ Pen h p 999999 ∧ ds ≠ [] ∧ ds.length ≤ 10000 ∧ ∀ d g, d ∈ ds → Moved h p 1 g → Q d g
  | _ => False
/-- _law_one_of(pen, some); slots: pen 0, some 1 -/
def N__law_one_of : List Str := ["pen", "some"]
def m__law_one_of : MS := dRet (dOp dIx (dVar 1) (dCall 2 sp__law_take (dCons (dVar 0) (dCons (dCB bLen (dCons (dVar 1) (dNil))) (dNil)))))
theorem st__law_one_of (a0 a1 : D) : startD N__law_one_of [a0, a1] = [some a0, some a1] := rfl
theorem nat_in {n : Int} {l : Nat} (h0 : 0 ≤ n) (h1 : n < l) : ∃ j : Nat, j < l ∧ n = j := ⟨n.toNat, by omega, by omega⟩
theorem ok__law_one_of (ds : List D) (h : DHp) (Q : DK) (E : DX) (hn : ds.length = 2) (q : sp__law_one_of ds h Q E) : m__law_one_of (endsD Q E) (startD N__law_one_of ds) h := by
  have hs := sizeLine_eq
  match ds, q with
  | [.ref p, .str x], ⟨P, hx, hl, q⟩ =>
    have hx' : 0 < x.length := List.length_pos_iff.mpr hx
    simp only [m__law_one_of, st__law_one_of, forall_const, true_implies, false_implies, implies_true, and_true, true_and, reduceCtorEq, Bool.not_true, Bool.not_false, Bool.true_xor, Bool.false_xor, Option.some.injEq, exists_eq_left', put_same, onB_bl, dSeq, dNext, dBreak, dDrop, dRet, dRetN, dIfS, dName, dgNil, dgCons, dgTup, dAsg, dPar, dPar3, dSetI, dgSub, dRaise, dVar, dC, dOp, dTest, dAnd, dOr, dNot, dAndV, dOrV, dNotV, dIf, dNil, dCons, dTup, dLst, dCall, dCB, dMt, dMt0, dInC, dIxC, dChain, dNeg, dNoPart, dPart, dSl, exE, dIsA, dCat, catchD, subE, Ex.ix, endsD, dLc, dISeq, dIRng1, dIRng2, dIEnum, dFor, dDcT, dDcK, dCallV, mStarts_str, List.getElem?_cons_zero, List.getElem?_cons_succ, List.set_cons_zero, List.set_cons_succ, onL_lst, isA_non, isA_int_int, isA_bool_int, isA_str_int, isA_tup_int, isA_lst_int, isA_int_str, isA_bool_str, isA_str_str, isA_tup_str, isA_lst_str, isA_int_tup, isA_bool_tup, isA_str_tup, isA_tup_tup, isA_lst_tup, isA_int_bl, isA_bool_bl, isA_str_bl, isA_tup_bl, isA_lst_bl, dAdd_int, dAdd_str, dAdd_tup, dAdd_ref, dSub_int, dLt_int, dLe_int, dGt_int, dGe_int, dMul_int, dMul_str, dMul_ref, dMod_int, dFdiv_int, dPow_int, dIsN_, dNotN_, isNon_int, isNon_non, dEq_str, dEq_int, dNe_str, dNe_int, dIn_sign, dIx_str, dIx_tup, dIx_scr, dIx_ref, dCut_str, dCut_tup, dCut_scr, dCut_ref, bLen_str, bLen_tup, bLen_ref, bInt_int, bInt_bl, bTup_tup, bTup_ref, bList_str, bList_tup, bList_ref, tyD_str, mAppend_ref, mExtend_ref, tyL, dSetL_ref, mJoin_ref, bMin_ref, bMax_ref, atI_0, atI_1, atI_2]
    refine ⟨by omega, rfl, P, by omega, by omega, fun n g h0 h1 M => ?_⟩
    obtain ⟨j, hj, rfl⟩ := nat_in h0 h1
    simp only [forall_const, true_implies, false_implies, implies_true, and_true, true_and, reduceCtorEq, Bool.not_true, Bool.not_false, Bool.true_xor, Bool.false_xor, Option.some.injEq, exists_eq_left', put_same, onB_bl, dSeq, dNext, dBreak, dDrop, dRet, dRetN, dIfS, dName, dgNil, dgCons, dgTup, dAsg, dPar, dPar3, dSetI, dgSub, dRaise, dVar, dC, dOp, dTest, dAnd, dOr, dNot, dAndV, dOrV, dNotV, dIf, dNil, dCons, dTup, dLst, dCall, dCB, dMt, dMt0, dInC, dIxC, dChain, dNeg, dNoPart, dPart, dSl, exE, dIsA, dCat, catchD, subE, Ex.ix, endsD, dLc, dISeq, dIRng1, dIRng2, dIEnum, dFor, dDcT, dDcK, dCallV, mStarts_str, List.getElem?_cons_zero, List.getElem?_cons_succ, List.set_cons_zero, List.set_cons_succ, onL_lst, isA_non, isA_int_int, isA_bool_int, isA_str_int, isA_tup_int, isA_lst_int, isA_int_str, isA_bool_str, isA_str_str, isA_tup_str, isA_lst_str, isA_int_tup, isA_bool_tup, isA_str_tup, isA_tup_tup, isA_lst_tup, isA_int_bl, isA_bool_bl, isA_str_bl, isA_tup_bl, isA_lst_bl, dAdd_int, dAdd_str, dAdd_tup, dAdd_ref, dSub_int, dLt_int, dLe_int, dGt_int, dGe_int, dMul_int, dMul_str, dMul_ref, dMod_int, dFdiv_int, dPow_int, dIsN_, dNotN_, isNon_int, isNon_non, dEq_str, dEq_int, dNe_str, dNe_int, dIn_sign, dIx_str, dIx_tup, dIx_scr, dIx_ref, dCut_str, dCut_tup, dCut_scr, dCut_ref, bLen_str, bLen_tup, bLen_ref, bInt_int, bInt_bl, bTup_tup, bTup_ref, bList_str, bList_tup, bList_ref, tyD_str, mAppend_ref, mExtend_ref, tyL, dSetL_ref, mJoin_ref, bMin_ref, bMax_ref, atI_0, atI_1, atI_2]
    exact ⟨by omega, x[j], atI_lt (List.getElem?_eq_getElem hj), fgt_here (q _ _ (List.getElem_mem hj) M)⟩
  | [.ref p, .ref a], ⟨ha, ds, ea, P, hx, hl, q⟩ =>
    have hx' : 0 < ds.length := List.length_pos_iff.mpr hx
    simp only [m__law_one_of, st__law_one_of, forall_const, true_implies, false_implies, implies_true, and_true, true_and, reduceCtorEq, Bool.not_true, Bool.not_false, Bool.true_xor, Bool.false_xor, Option.some.injEq, exists_eq_left', put_same, onB_bl, dSeq, dNext, dBreak, dDrop, dRet, dRetN, dIfS, dName, dgNil, dgCons, dgTup, dAsg, dPar, dPar3, dSetI, dgSub, dRaise, dVar, dC, dOp, dTest, dAnd, dOr, dNot, dAndV, dOrV, dNotV, dIf, dNil, dCons, dTup, dLst, dCall, dCB, dMt, dMt0, dInC, dIxC, dChain, dNeg, dNoPart, dPart, dSl, exE, dIsA, dCat, catchD, subE, Ex.ix, endsD, dLc, dISeq, dIRng1, dIRng2, dIEnum, dFor, dDcT, dDcK, dCallV, mStarts_str, List.getElem?_cons_zero, List.getElem?_cons_succ, List.set_cons_zero, List.set_cons_succ, onL_lst, isA_non, isA_int_int, isA_bool_int, isA_str_int, isA_tup_int, isA_lst_int, isA_int_str, isA_bool_str, isA_str_str, isA_tup_str, isA_lst_str, isA_int_tup, isA_bool_tup, isA_str_tup, isA_tup_tup, isA_lst_tup, isA_int_bl, isA_bool_bl, isA_str_bl, isA_tup_bl, isA_lst_bl, dAdd_int, dAdd_str, dAdd_tup, dAdd_ref, dSub_int, dLt_int, dLe_int, dGt_int, dGe_int, dMul_int, dMul_str, dMul_ref, dMod_int, dFdiv_int, dPow_int, dIsN_, dNotN_, isNon_int, isNon_non, dEq_str, dEq_int, dNe_str, dNe_int, dIn_sign, dIx_str, dIx_tup, dIx_scr, dIx_ref, dCut_str, dCut_tup, dCut_scr, dCut_ref, bLen_str, bLen_tup, bLen_ref, bInt_int, bInt_bl, bTup_tup, bTup_ref, bList_str, bList_tup, bList_ref, tyD_str, mAppend_ref, mExtend_ref, tyL, dSetL_ref, mJoin_ref, bMin_ref, bMax_ref, atI_0, atI_1, atI_2, ea]
    refine ⟨rfl, P, by omega, by omega, fun n g h0 h1 M => ?_⟩
    obtain ⟨j, hj, rfl⟩ := nat_in h0 h1
    simp only [forall_const, true_implies, false_implies, implies_true, and_true, true_and, reduceCtorEq, Bool.not_true, Bool.not_false, Bool.true_xor, Bool.false_xor, Option.some.injEq, exists_eq_left', put_same, onB_bl, dSeq, dNext, dBreak, dDrop, dRet, dRetN, dIfS, dName, dgNil, dgCons, dgTup, dAsg, dPar, dPar3, dSetI, dgSub, dRaise, dVar, dC, dOp, dTest, dAnd, dOr, dNot, dAndV, dOrV, dNotV, dIf, dNil, dCons, dTup, dLst, dCall, dCB, dMt, dMt0, dInC, dIxC, dChain, dNeg, dNoPart, dPart, dSl, exE, dIsA, dCat, catchD, subE, Ex.ix, endsD, dLc, dISeq, dIRng1, dIRng2, dIEnum, dFor, dDcT, dDcK, dCallV, mStarts_str, List.getElem?_cons_zero, List.getElem?_cons_succ, List.set_cons_zero, List.set_cons_succ, onL_lst, isA_non, isA_int_int, isA_bool_int, isA_str_int, isA_tup_int, isA_lst_int, isA_int_str, isA_bool_str, isA_str_str, isA_tup_str, isA_lst_str, isA_int_tup, isA_bool_tup, isA_str_tup, isA_tup_tup, isA_lst_tup, isA_int_bl, isA_bool_bl, isA_str_bl, isA_tup_bl, isA_lst_bl, dAdd_int, dAdd_str, dAdd_tup, dAdd_ref, dSub_int, dLt_int, dLe_int, dGt_int, dGe_int, dMul_int, dMul_str, dMul_ref, dMod_int, dFdiv_int, dPow_int, dIsN_, dNotN_, isNon_int, isNon_non, dEq_str, dEq_int, dNe_str, dNe_int, dIn_sign, dIx_str, dIx_tup, dIx_scr, dIx_ref, dCut_str, dCut_tup, dCut_scr, dCut_ref, bLen_str, bLen_tup, bLen_ref, bInt_int, bInt_bl, bTup_tup, bTup_ref, bList_str, bList_tup, bList_ref, tyD_str, mAppend_ref, mExtend_ref, tyL, dSetL_ref, mJoin_ref, bMin_ref, bMax_ref, atI_0, atI_1, atI_2, moved_old M ea ha]
    exact ⟨ds[j], atI_lt (List.getElem?_eq_getElem hj), fgt_here (q _ _ (List.getElem_mem hj) M)⟩
theorem take_mv {h g : DHp} {p : Addr} {m N many : Int} {K : DK} {E : DX} (P : Pen h p N) (M : Mv h p m g) (hN : N + m ≤ 999999) (h0 : 0 < many) (h1 : many < 1073741824) (q : ∀ n g', 0 ≤ n → n < many → Mv h p (m + 1) g' → K (.int n) g') : [D.ref p, .int many].length = 2 ∧ sp__law_take [.ref p, .int many] g K E :=
  ⟨rfl, pen_le (mv_pen P M) hN, h0, h1, fun n g' a b c => q n g' a b (mv_moved M c)⟩
theorem one_mv {h g : DHp} {p : Addr} {m N : Int} {K : DK} {E : DX} {ds : List D} (P : Pen h p N) (M : Mv h p m g) (hN : N + m ≤ 999999) (h0 : ds ≠ []) (h1 : ds.length ≤ 10000) (q : ∀ d ∈ ds, ∀ g', Mv h p (m + 1) g' → K d g') (r : Addr) (nr : g r = none) : [D.ref p, .ref r].length = 2 ∧ sp__law_one_of [.ref p, .ref r] (put g r (.lst ds)) K E := by
  have M1 := mv_new (o := .lst ds) M nr
  have np : r ≠ p := fun z => (pen_new (mv_pen P M) nr) z.symm
  exact ⟨rfl, np, ds, put_same, pen_le (mv_pen P M1) hN, h0, h1, fun d g' hd M' => q d hd g' (mv_moved M1 M')⟩
theorem one_str {h g : DHp} {p : Addr} {m N : Int} {K : DK} {E : DX} {x : Tx} (P : Pen h p N) (M : Mv h p m g) (hN : N + m ≤ 999999) (h0 : x ≠ []) (h1 : x.length ≤ 10000) (q : ∀ c ∈ x, ∀ g', Mv h p (m + 1) g' → K (.str [c]) g') : [D.ref p, .str x].length = 2 ∧ sp__law_one_of [.ref p, .str x] g K E :=
  ⟨rfl, pen_le (mv_pen P M) hN, h0, h1, fun d g' hd M' => q d hd g' (mv_moved M M')⟩
theorem in3 {d a b c : D} (h : d ∈ [a, b, c]) : d = a ∨ d = b ∨ d = c := by simpa using h
theorem isRule_mk {k : Tx} {m a b : Int} (e : k_BOUNDS k = some (.int m)) (h0 : 0 ≤ a) (h1 : a ≤ b) (h2 : b ≤ m) : isRule (.tup [.str k, .int a, .int b]) = true := by
  simp only [isRule, e, within, Bool.and_eq_true, decide_eq_true_eq]
  omega
end Tw

namespace Tw
open PySem PySem.Spec PyProof.Rows L2
theorem okTx_small {x : Tx} (h : madeOf x SMALL = true) : okTx x := by
  intro c hc
  unfold madeOf at h
  rw [List.all_eq_true] at h
  have hm : c ∈ SMALL := by simpa using h c hc
  have : ∀ c ∈ SMALL, c < 1114112 := by decide
  exact this c hm
theorem readW_ok {k x : Tx} {a b : Nat} (hx : okTx x) : ∀ w ∈ readW k x a b, okTx w := by
  intro w hw
  unfold readW at hw
  rw [inOrder_mem] at hw
  obtain ⟨i, m, _, _, rfl⟩ := tearsL_mem hw
  exact okTx_tear hx
theorem weight_strs {L : Nat} : ∀ {ws : List Tx}, (∀ w ∈ ws, w.length ≤ L) → PyData.weightAll (ws.map fun w => PyData.str (tx w)) ≤ ws.length * (L + 1)
  | [], _ => by simp [PyData.weightAll]
  | w :: ws, h => by
    have h1 := weight_strs (ws := ws) (L := L) fun v hv => h v (by simp [hv])
    have h2 : w.length ≤ L := h w (by simp)
    have h3 : (tx w).cps.size = w.length := by simp [tx]
    rw [List.map_cons, PyData.weightAll, PyData.weight, h3, List.length_cons, Nat.succ_mul]
    omega
theorem leaf_s {x : Tx} (h : okTx x) : PyData.leavesShort 8 (.str (tx x)) = true := by
  simp only [PyData.leavesShort, List.all_eq_true, decide_eq_true_eq]
  intro c hc
  have := h c (by simpa [tx] using hc)
  have e : (16 : Nat) ^ 8 = 4294967296 := by decide
  omega
theorem leaf_l : ∀ {ws : List Tx}, (∀ w ∈ ws, okTx w) → PyData.leavesShortAll 8 (ws.map fun w => PyData.str (tx w)) = true
  | [], _ => rfl
  | w :: ws, h => by
    rw [List.map_cons, PyData.leavesShortAll, Bool.and_eq_true]
    exact ⟨leaf_s (h w (by simp)), leaf_l fun v hv => h v (by simp [hv])⟩
theorem show_l : ∀ ws : List Tx, PyData.showableAll (ws.map fun w => PyData.str (tx w)) = true
  | [] => rfl
  | w :: ws => by rw [List.map_cons, PyData.showableAll, show_l ws]; rfl
theorem nodict_l : ∀ ws : List Tx, PyData.hasDictAll (ws.map fun w => PyData.str (tx w)) = false
  | [] => rfl
  | w :: ws => by rw [List.map_cons, PyData.hasDictAll, nodict_l ws]; rfl
def shownL (ws : List Tx) : Tx := (PyData.list (ws.map fun w => PyData.str (tx w))).shown.cps.toList
def shownS (x : Tx) : Tx := (PyData.str (tx x)).shown.cps.toList
theorem repr_strs {h : DHp} {a : Addr} {ws : List Tx} {K : DK} (L N : Nat) (ea : h a = some (.lst (ws.map D.str))) (ok : ∀ w ∈ ws, okTx w) (hL : ∀ w ∈ ws, w.length ≤ L) (hN : ws.length ≤ N) (hs : 10 * (N * (L + 1)) + 8 ≤ sizeLine) (k : K (.str (shownL ws)) h) : bRepr [.ref a] h K := by
  refine ⟨_, .lst ea (pya_strs ws), ?_, ?_, ?_, ?_, k⟩
  · simp only [PyData.showable]; exact show_l ws
  · simp only [PyData.hasDict]; exact nodict_l ws
  · have e := depth_all ws
    simp only [PyData.depth, e]
    decide
  · have h1 := PyData.shown_le 8 (by decide) (.list (ws.map fun w => PyData.str (tx w))) (by simp only [PyData.leavesShort]; exact leaf_l ok)
    have h2 := weight_strs hL
    have h3 : ws.length * (L + 1) ≤ N * (L + 1) := Nat.mul_le_mul_right _ hN
    simp only [PyData.weight] at h1
    omega
theorem repr_str {h : DHp} {x : Tx} {K : DK} (ok : okTx x) (hL : x.length ≤ 100000) (k : K (.str (shownS x)) h) : bRepr [.str x] h K := by
  have hs := sizeLine_eq
  refine ⟨_, .str x, rfl, rfl, Nat.zero_le _, ?_, k⟩
  have h1 := PyData.shown_le 8 (by decide) (.str (tx x)) (leaf_s ok)
  have h3 : (tx x).cps.size = x.length := by simp [tx]
  simp only [PyData.weight, h3] at h1
  omega
theorem inOrder_len (ws : List Tx) : (inOrder ws).length ≤ ws.length := by
  have e2 := putTs_nub ws []
  rw [List.map_nil] at e2
  have h1 := putTs_len (ws.map fun x => (keyT x, D.bl true)) []
  rw [e2] at h1
  unfold inOrder
  rw [(List.mergeSort_perm (nub ws) leW).length_eq]
  simpa [nub] using h1
theorem readW_len {k x : Tx} {a b : Nat} (hb : b ≤ 3) (hx : x.length ≤ 27) : (readW k x a b).length ≤ 112 := by
  refine Nat.le_trans (inOrder_len _) (Nat.le_trans (tearsL_len _) ?_)
  have : (b + 1 - a) * (x.length + 1) ≤ 4 * 28 := Nat.mul_le_mul (by omega) (by omega)
  omega
theorem readW_each {k x : Tx} {a b : Nat} (hx : x.length ≤ 27) : ∀ w ∈ readW k x a b, w.length ≤ 55 := by
  intro w hw
  unfold readW at hw
  rw [inOrder_mem] at hw
  obtain ⟨i, m, _, h5, rfl⟩ := tearsL_mem hw
  have := tearW_len (k := k) h5 (.inr True.intro)
  omega
theorem pen_less {h g : DHp} {p : Addr} {N : Int} (P : Pen h p N) (l : Less h g) : Pen g p N := by
  obtain ⟨c, k, v, ns, hp, hc, h1, h2⟩ := P
  exact ⟨c, k, v, ns, l _ _ hp, l _ _ hc, h1, h2⟩
theorem pen_new2 {h : DHp} {p r : Addr} {N : Int} {o : DO} (P : Pen h p N) (n : h r = none) : Pen (put h r o) p N := pen_less P (Less.put n)
theorem moved_mv {h g : DHp} {p : Addr} {m N : Int} (P : Pen h p N) (M : Moved h p m g) : Mv h p m g := by
  have := mv_moved (mv_refl P) M
  rwa [Int.zero_add] at this
theorem isText_small {x : Tx} (h : x.length ≤ 200) (m : madeOf x SMALL = true) : isText (.str x) SMALL = true := by
  simp [isText, h, m]
end Tw

namespace Tw
open PySem PySem.Spec PyProof.Rows L2
/-! ### readings of other kinds -/
theorem readW_iff {k x w : Tx} {a b : Nat} : w ∈ readW k x a b ↔ ∃ n m, a ≤ m ∧ m ≤ b ∧ n + m ≤ x.length ∧ w = tearW k x n m := by
  unfold readW
  rw [inOrder_mem, tearsL_iff]
  constructor
  · rintro ⟨i, m, h1, h2, e⟩; exact ⟨m, a + i, by omega, by omega, by omega, e⟩
  · rintro ⟨n, m, h1, h2, h3, e⟩; exact ⟨m - a, n, by omega, by rw [Nat.add_sub_cancel' h1]; exact h3, by rw [Nat.add_sub_cancel' h1]; exact e⟩
theorem small_no {x : Tx} {c : Nat} (h : madeOf x SMALL = true) (hc : c ∉ SMALL) : c ∉ x := by
  intro hx
  unfold madeOf at h
  rw [List.all_eq_true] at h
  exact hc (by simpa using h c hx)
/-- a sign that stands in neither: the part ahead of it is told -/
theorem ahead_eq {c : Nat} : ∀ {u u' v v' : Tx}, c ∉ u → c ∉ u' → u ++ c :: v = u' ++ c :: v' → u = u' ∧ v = v'
  | [], [], _, _, _, _, e => by simpa using e
  | [], y :: u', _, _, _, h, e => by simp at e h; exact absurd e.1 h.1
  | x :: u, [], _, _, h, _, e => by simp at e h; exact absurd e.1.symm h.1
  | x :: u, y :: u', v, v', h, h', e => by
    simp only [List.cons_append, List.cons.injEq] at e
    simp only [List.mem_cons, not_or] at h h'
    obtain ⟨e1, e2⟩ := ahead_eq h.2 h'.2 e.2
    exact ⟨by rw [e.1, e1], e2⟩
theorem blanks_eq {c : Nat} : ∀ {m m' : Nat} {v v' : Tx}, c ∉ v → c ∉ v' → List.replicate m c ++ v = List.replicate m' c ++ v' → m = m' ∧ v = v'
  | 0, 0, _, _, _, _, e => by simpa using e
  | 0, m' + 1, v, v', h, _, e => by simp [List.replicate_succ] at e; rw [e] at h; simp at h
  | m + 1, 0, v, v', _, h, e => by simp [List.replicate_succ] at e; rw [← e] at h; simp at h
  | m + 1, m' + 1, v, v', h, h', e => by
    simp only [List.replicate_succ, List.cons_append, List.cons.injEq, true_and] at e
    obtain ⟨e1, e2⟩ := blanks_eq h h' e
    exact ⟨by rw [e1], e2⟩
theorem tear_f {x : Tx} {n m : Nat} : tearW kF x n m = x.take n ++ List.replicate m 63 ++ x.drop (n + m) := by simp [tearW]
theorem tear_o {x : Tx} {n m : Nat} : tearW kO x n m = x.take n ++ 42 :: x.drop (n + m) := by simp [tearW]
theorem tear_c {x : Tx} {n m : Nat} : tearW kC x n m = x.take n ++ x.drop (n + m) := by simp [tearW]
theorem tear_d {x : Tx} {n m : Nat} : tearW kD x n m = x.take n ++ ((x.drop n).take m ++ (x.drop n).take m) ++ x.drop (n + m) := by simp [tearW]
theorem open_of_faded {x y z : Tx} {a b : Nat} (hx : madeOf x SMALL = true) (hy : madeOf y SMALL = true) (ne : x ≠ y) (zx : z ∈ readW kF x a b) (zy : z ∈ readW kF y a b) : ∃ w, w ∈ readW kO x a b ∧ w ∈ readW kO y a b := by
  obtain ⟨n, m, h1, h2, h3, e1⟩ := readW_iff.mp zx
  obtain ⟨n', m', h1', h2', h3', e2⟩ := readW_iff.mp zy
  have qx : (63 : Nat) ∉ x := small_no hx (by decide)
  have qy : (63 : Nat) ∉ y := small_no hy (by decide)
  rw [tear_f] at e1 e2
  have tk : ∀ {l : Tx} {i : Nat}, (63 : Nat) ∉ l → (63 : Nat) ∉ l.take i := fun h h' => h (List.mem_of_mem_take h')
  have dr : ∀ {l : Tx} {i : Nat}, (63 : Nat) ∉ l → (63 : Nat) ∉ l.drop i := fun h h' => h (List.mem_of_mem_drop h')
  have e := e1.symm.trans e2
  cases m with
  | zero =>
    cases m' with
    | zero => simp at e; exact absurd e ne
    | succ m' =>
      have : (63 : Nat) ∈ x := by
        have h : (63 : Nat) ∈ y.take n' ++ List.replicate (m' + 1) 63 ++ y.drop (n' + (m' + 1)) := by simp [List.replicate_succ]
        rw [← e] at h
        simpa using h
      exact absurd this qx
  | succ m =>
    cases m' with
    | zero =>
      have : (63 : Nat) ∈ y := by
        have h : (63 : Nat) ∈ x.take n ++ List.replicate (m + 1) 63 ++ x.drop (n + (m + 1)) := by simp [List.replicate_succ]
        rw [e] at h
        simpa using h
      exact absurd this qy
    | succ m' =>
      simp only [List.append_assoc, List.replicate_succ, List.cons_append] at e
      obtain ⟨f1, f2⟩ := ahead_eq (tk qx) (tk qy) e
      obtain ⟨f3, f4⟩ := blanks_eq (dr qx) (dr qy) f2
      subst f3
      refine ⟨tearW kO x n (m + 1), readW_iff.mpr ⟨n, m + 1, h1, h2, h3, rfl⟩, readW_iff.mpr ⟨n', m + 1, h1, h2, h3', ?_⟩⟩
      rw [tear_o, tear_o, f1, f4]
theorem closed_of_open {x y z : Tx} {a b : Nat} (hx : madeOf x SMALL = true) (hy : madeOf y SMALL = true) (zx : z ∈ readW kO x a b) (zy : z ∈ readW kO y a b) : ∃ w, w ∈ readW kC x a b ∧ w ∈ readW kC y a b := by
  obtain ⟨n, m, h1, h2, h3, e1⟩ := readW_iff.mp zx
  obtain ⟨n', m', h1', h2', h3', e2⟩ := readW_iff.mp zy
  have qx : (42 : Nat) ∉ x.take n := fun h => small_no hx (by decide) (List.mem_of_mem_take h)
  have qy : (42 : Nat) ∉ y.take n' := fun h => small_no hy (by decide) (List.mem_of_mem_take h)
  rw [tear_o] at e1 e2
  obtain ⟨f1, f2⟩ := ahead_eq qx qy (e1.symm.trans e2)
  refine ⟨tearW kC x n m, readW_iff.mpr ⟨n, m, h1, h2, h3, rfl⟩, readW_iff.mpr ⟨n', m', h1', h2', h3', ?_⟩⟩
  rw [tear_c, tear_c, f1, f2]
/-- a doubled stretch, sign by sign -/
theorem dbl_lo {x : Tx} {n m j : Nat} (h : n + m ≤ x.length) (hj : j < n + m) : (tearW kD x n m)[j]? = x[j]? := by
  rw [tear_d]
  have e : x.take n ++ ((x.drop n).take m ++ (x.drop n).take m) ++ x.drop (n + m) = x.take (n + m) ++ ((x.drop n).take m ++ x.drop (n + m)) := by
    rw [List.take_add]
    simp
  rw [e, List.getElem?_append_left (by rw [List.length_take]; omega), List.getElem?_take_of_lt hj]
theorem dbl_hi {x : Tx} {n m j : Nat} (h : n + m ≤ x.length) (hj : n ≤ j) : (tearW kD x n m)[j + m]? = x[j]? := by
  rw [tear_d]
  have e : x.take n ++ ((x.drop n).take m ++ (x.drop n).take m) ++ x.drop (n + m) = (x.take n ++ (x.drop n).take m) ++ x.drop n := by
    have : (x.drop n).take m ++ x.drop (n + m) = x.drop n := by rw [← List.drop_drop]; exact List.take_append_drop m _
    simp only [List.append_assoc, this]
  rw [e, List.getElem?_append_right (by simp; omega)]
  have el : (x.take n ++ (x.drop n).take m).length = n + m := by simp; omega
  rw [el, List.getElem?_drop]
  congr 1
  omega
theorem dbl_len {x : Tx} {n m : Nat} (h : n + m ≤ x.length) : (tearW kD x n m).length = x.length + m := by
  rw [tear_d]
  simp
  omega
theorem cls_at {x : Tx} {n m j : Nat} (h : n + m ≤ x.length) : (tearW kC x n m)[j]? = if j < n then x[j]? else x[j + m]? := by
  rw [tear_c]
  by_cases hj : j < n
  · rw [if_pos hj, List.getElem?_append_left (by rw [List.length_take]; omega), List.getElem?_take_of_lt hj]
  · rw [if_neg hj, List.getElem?_append_right (by rw [List.length_take]; omega), List.length_take, List.getElem?_drop]
    congr 1
    omega
/-- two doublings, the one's stretch ends behind the other's -/
theorem closed_far {x y z : Tx} {n m n' m' : Nat} (h : n + m ≤ x.length) (h' : n' + m' ≤ y.length) (e : z = tearW kD x n m) (e' : z = tearW kD y n' m') (l1 : n ≤ n') (l2 : n + m ≤ n' + m') :
    n + m ≤ y.length ∧ ∃ i, i + m' ≤ x.length ∧ tearW kC x i m' = tearW kC y n m := by
  have lz : x.length + m = y.length + m' := by rw [← dbl_len h, ← dbl_len h', ← e, ← e']
  have hy : n + m ≤ y.length := by omega
  refine ⟨hy, n' + m' - m, by omega, List.ext_getElem? fun j => ?_⟩
  rw [cls_at (by omega), cls_at hy]
  have xl : ∀ j, j < n + m → x[j]? = z[j]? := fun j hj => by rw [e, dbl_lo h hj]
  have xh : ∀ j, n ≤ j → x[j]? = z[j + m]? := fun j hj => by rw [e, dbl_hi h hj]
  have yl : ∀ j, j < n' + m' → y[j]? = z[j]? := fun j hj => by rw [e', dbl_lo h' hj]
  have yh : ∀ j, n' ≤ j → y[j]? = z[j + m']? := fun j hj => by rw [e', dbl_hi h' hj]
  by_cases c1 : j < n
  · rw [if_pos (by omega), if_pos c1, xl _ (by omega), yl _ (by omega)]
  · rw [if_neg c1]
    by_cases c2 : j < n' + m' - m
    · rw [if_pos c2, xh _ (by omega), yl _ (by omega)]
    · rw [if_neg c2, xh _ (by omega), yh _ (by omega)]
      congr 1
      omega
/-- .. where the first one begins ahead and ends behind: stretches of two and of one sign -/
theorem closed_near {x y z : Tx} {n m n' m' : Nat} (h : n + m ≤ x.length) (h' : n' + m' ≤ y.length) (e : z = tearW kD x n m) (e' : z = tearW kD y n' m') (hm : m ≤ 2) (l1 : n ≤ n') (l2 : n' + m' < n + m) :
    (m' = 0 ∨ (m = 2 ∧ m' = 1 ∧ n' = n)) := by omega
theorem closed_pair {x y z : Tx} {a b n m n' m' : Nat} (hb : b ≤ 2) (h1 : a ≤ m) (h2 : m ≤ b) (h3 : n + m ≤ x.length) (h1' : a ≤ m') (h2' : m' ≤ b) (h3' : n' + m' ≤ y.length) (e : z = tearW kD x n m) (e' : z = tearW kD y n' m') (l1 : n ≤ n') :
    ∃ w, w ∈ readW kC x a b ∧ w ∈ readW kC y a b := by
  by_cases l2 : n + m ≤ n' + m'
  · obtain ⟨q1, i, q2, q3⟩ := closed_far h3 h3' e e' l1 l2
    exact ⟨_, readW_iff.mpr ⟨i, m', h1', h2', q2, rfl⟩, readW_iff.mpr ⟨n, m, h1, h2, q1, q3⟩⟩
  · have lz : x.length + m = y.length + m' := by rw [← dbl_len h3, ← dbl_len h3', ← e, ← e']
    have xl : ∀ j, j < n + m → x[j]? = z[j]? := fun j hj => by rw [e, dbl_lo h3 hj]
    have xh : ∀ j, n ≤ j → x[j]? = z[j + m]? := fun j hj => by rw [e, dbl_hi h3 hj]
    have yl : ∀ j, j < n' + m' → y[j]? = z[j]? := fun j hj => by rw [e', dbl_lo h3' hj]
    have yh : ∀ j, n' ≤ j → y[j]? = z[j + m']? := fun j hj => by rw [e', dbl_hi h3' hj]
    rcases closed_near h3 h3' e e' (by omega) l1 (by omega) with q | ⟨q1, q2, q3⟩
    · subst q
      refine ⟨tearW kC x n 0, readW_iff.mpr ⟨n, 0, h1', h2', by omega, rfl⟩, readW_iff.mpr ⟨n, m, h1, h2, by omega, ?_⟩⟩
      refine List.ext_getElem? fun j => ?_
      rw [cls_at (by omega), cls_at (by omega)]
      by_cases c : j < n
      · rw [if_pos c, if_pos c, xl _ (by omega), yl _ (by omega)]
      · rw [if_neg c, if_neg c, Nat.add_zero, xh _ (by omega)]
        by_cases d : j + m < n'
        · rw [yl _ (by omega)]
        · rw [yh _ (by omega), Nat.add_zero]
    · subst q1 q2 q3
      -- four signs alike
      have a1 : z[n']? = z[n' + 2]? := by rw [← xl n' (by omega), xh n' (by omega)]
      have a2 : z[n' + 1]? = z[n' + 3]? := by rw [← xl (n' + 1) (by omega), xh (n' + 1) (by omega)]
      have a3 : z[n']? = z[n' + 1]? := by rw [← yl n' (by omega), yh n' (by omega)]
      refine ⟨tearW kC x n' 1, readW_iff.mpr ⟨n', 1, h1', h2', by omega, rfl⟩, readW_iff.mpr ⟨n', 2, h1, h2, by omega, ?_⟩⟩
      refine List.ext_getElem? fun j => ?_
      rw [cls_at (by omega), cls_at (by omega)]
      by_cases c : j < n'
      · rw [if_pos c, if_pos c, xl _ (by omega), yl _ (by omega)]
      · rw [if_neg c, if_neg c, xh _ (by omega), yh _ (by omega)]
theorem closed_of_doubled {x y z : Tx} {a b : Nat} (hb : b ≤ 2) (zx : z ∈ readW kD x a b) (zy : z ∈ readW kD y a b) : ∃ w, w ∈ readW kC x a b ∧ w ∈ readW kC y a b := by
  obtain ⟨n, m, h1, h2, h3, e1⟩ := readW_iff.mp zx
  obtain ⟨n', m', h1', h2', h3', e2⟩ := readW_iff.mp zy
  by_cases l : n ≤ n'
  · exact closed_pair hb h1 h2 h3 h1' h2' h3' e1 e2 l
  · obtain ⟨w, w1, w2⟩ := closed_pair hb h1' h2' h3' h1 h2 h3 e2 e1 (by omega)
    exact ⟨w, w2, w1⟩
end Tw

namespace Tw
open PySem PySem.Spec PyProof.Rows L2
theorem memD_str {z : Tx} {ws : List Tx} {h : DHp} {R : Bool → Prop} (r : R (decide (z ∈ ws))) : memD (.str z) (ws.map D.str) h R := by
  refine .inl ⟨rfl, by simp [List.all_map, Function.comp_def, flatD], ?_⟩
  have e : ((ws.map D.str).any fun y => eqFD y (.str z)) = decide (z ∈ ws) := by
    rw [Bool.eq_iff_iff, decide_eq_true_eq, List.any_map, List.any_eq_true]
    constructor
    · rintro ⟨w, hw, e⟩
      have : w = z := by simpa [eqFD] using e
      exact this ▸ hw
    · exact fun hz => ⟨z, hz, by simp [eqFD]⟩
  rw [e]
  exact r
theorem dIn_ts {neg : Bool} {z : Tx} {ws : List Tx} {h : DHp} {Q : DK} (r : Q (.bl (xor neg (decide (z ∈ ws)))) h) : dIn neg (.str z) (.tup (ws.map D.str)) h Q := memD_str (R := fun b => Q (.bl (xor neg b)) h) r
theorem dIn_rs {neg : Bool} {z : Tx} {ws : List Tx} {h : DHp} {a : Addr} {Q : DK} (e : h a = some (.lst (ws.map D.str))) (r : Q (.bl (xor neg (decide (z ∈ ws)))) h) : dIn neg (.str z) (.ref a) h Q := by
  unfold dIn
  simp only [e]
  exact memD_str (R := fun b => Q (.bl (xor neg b)) h) r
theorem dIn_dct_str {neg : Bool} {z : Tx} {kvs : List (KeyD × D)} {h : DHp} {a : Addr} {Q : DK} (e : h a = some (.dct kvs)) (r : Q (.bl (xor neg (valC kvs (.inr z)).isSome)) h) : dIn neg (.str z) (.ref a) h Q := by
  unfold dIn
  simp only [e]
  exact r
/-- is it a rule of one of these kinds? -/
def isKindR (t : D) (ks : List Tx) : Bool := isRule t && (match t with
  | .tup [.str k, _, _] => decide (k ∈ ks)
  | _ => false)
def sp_need_kind : SpD := fun ds h Q E => match ds with
  | [t, .tup kd] => Plain t h ∧ (∀ xs, t = .tup xs → ∀ x ∈ xs, Plain x h) ∧ ∃ ks : List Tx, kd = ks.map D.str ∧ (isKindR t ks = true → Q .non h) ∧ (isKindR t ks = false → E .rule h)
  | _ => False
/-- need_kind(rule, kinds); slots: rule 0, kinds 1 -/
def N_need_kind : List Str := ["rule", "kinds"]
def m_need_kind : MS := dIfS (dOr (dNot (dTest (dCall 1 sp_is_rule (dCons (dVar 0) (dNil))))) (dTest (dOp (dIn true) (dOp dIx (dVar 0) (dC (.int 0))) (dVar 1)))) (dRaise .rule) (dNext)
theorem st_need_kind (a0 a1 : D) : startD N_need_kind [a0, a1] = [some a0, some a1] := rfl
theorem ok_need_kind (ds : List D) (h : DHp) (Q : DK) (E : DX) (hn : ds.length = 2) (q : sp_need_kind ds h Q E) : m_need_kind (endsD Q E) (startD N_need_kind ds) h := by
  match ds, q with
  | [t, .tup kd], ⟨pl, pp, ks, ekd, q1, q2⟩ =>
    subst ekd
    simp only [m_need_kind, st_need_kind, forall_const, true_implies, false_implies, implies_true, and_true, true_and, reduceCtorEq, Bool.not_true, Bool.not_false, Bool.true_xor, Bool.false_xor, Option.some.injEq, exists_eq_left', put_same, onB_bl, dSeq, dNext, dBreak, dDrop, dRet, dRetN, dIfS, dName, dgNil, dgCons, dgTup, dAsg, dPar, dPar3, dSetI, dgSub, dRaise, dVar, dC, dOp, dTest, dAnd, dOr, dNot, dAndV, dOrV, dNotV, dIf, dNil, dCons, dTup, dLst, dCall, dCB, dMt, dMt0, dInC, dIxC, dChain, dNeg, dNoPart, dPart, dSl, exE, dIsA, dCat, catchD, subE, Ex.ix, endsD, dLc, dISeq, dIRng1, dIRng2, dIEnum, dFor, dDcT, dDcK, dCallV, mStarts_str, List.getElem?_cons_zero, List.getElem?_cons_succ, List.set_cons_zero, List.set_cons_succ, onL_lst, isA_non, isA_int_int, isA_bool_int, isA_str_int, isA_tup_int, isA_lst_int, isA_int_str, isA_bool_str, isA_str_str, isA_tup_str, isA_lst_str, isA_int_tup, isA_bool_tup, isA_str_tup, isA_tup_tup, isA_lst_tup, isA_int_bl, isA_bool_bl, isA_str_bl, isA_tup_bl, isA_lst_bl, dAdd_int, dAdd_str, dAdd_tup, dAdd_ref, dSub_int, dLt_int, dLe_int, dGt_int, dGe_int, dMul_int, dMul_str, dMul_ref, dMod_int, dFdiv_int, dPow_int, dIsN_, dNotN_, isNon_int, isNon_non, dEq_str, dEq_int, dNe_str, dNe_int, dIn_sign, dIx_str, dIx_tup, dIx_scr, dIx_ref, dCut_str, dCut_tup, dCut_scr, dCut_ref, bLen_str, bLen_tup, bLen_ref, bInt_int, bInt_bl, bTup_tup, bTup_ref, bList_str, bList_tup, bList_ref, tyD_str, mAppend_ref, mExtend_ref, tyL, dSetL_ref, mJoin_ref, bMin_ref, bMax_ref, atI_0, atI_1, atI_2]
    refine ⟨rfl, pl, pp, fun hr => ⟨h, Less.refl, q2 (by simp [isKindR, show isRule t = false by simpa using hr])⟩, fun hr => ?_⟩
    have hr : isRule t = true := by simpa using hr
    have z : ∃ k a b, t = .tup [.str k, a, b] := by
      unfold isRule at hr
      split at hr
      · exact ⟨_, _, _, rfl⟩
      · cases hr
    obtain ⟨k, a, b, rfl⟩ := z
    simp only [dIx_tup, atI_0, Option.some.injEq, exists_eq_left']
    refine dIn_ts ?_
    simp only [onB_, Bool.true_xor]
    refine ⟨fun hk => ⟨h, Less.refl, q2 ?_⟩, fun hk => fgt_here (q1 ?_)⟩
    · have : k ∉ ks := by simpa using hk
      simp [isKindR, this]
    · have : k ∈ ks := by simpa using hk
      simp [isKindR, hr, this]
/-- two different words -/
def twoW (w o : D) (x y : Tx) : Prop := w = .str x ∧ o = .str y ∧ isText w SMALL = true ∧ isText o SMALL = true ∧ x ≠ y
/-- a reading of both -/
def sharedR (k : Tx) (a b : Nat) (x y : Tx) (r : D) (z : Tx) : Prop := r = .str z ∧ z.length ≤ 200 ∧ z ∈ readW k x a b ∧ z ∈ readW k y a b
def sp_need_pair : SpD := fun ds h Q E => match ds with
  | [.tup [.str k, .int a, .int b], w, o, r] => isRule (.tup [.str k, .int a, .int b]) = true ∧ Plain w h ∧ Plain o h ∧ Plain r h ∧ (∀ x, w = .str x → x.length ≤ 10000) ∧ (∀ x, o = .str x → x.length ≤ 10000) ∧ (∀ x, r = .str x → x.length ≤ 10000) ∧
    ((∀ x y, ¬ twoW w o x y) → E .word h) ∧ ∀ x y, twoW w o x y → (∀ z, sharedR k a.toNat b.toNat x y r z → Q .non h) ∧ ((∀ z, ¬ sharedR k a.toNat b.toNat x y r z) → E .reading h)
  | _ => False
/-- need_pair(rule, word, other, reading); slots: rule 0, word 1, other 2, reading 3 -/
def N_need_pair : List Str := ["rule", "word", "other", "reading"]
def m_need_pair : MS := dSeq (dDrop (dCall 2 sp_need_text (dCons (dVar 1) (dCons (dC (.str [97, 98, 99, 100, 101, 102, 103, 104, 105, 106, 107, 108, 109, 110, 111, 112, 113, 114, 115, 116, 117, 118, 119, 120, 121, 122])) (dNil))))) (dSeq (dDrop (dCall 2 sp_need_text (dCons (dVar 2) (dCons (dC (.str [97, 98, 99, 100, 101, 102, 103, 104, 105, 106, 107, 108, 109, 110, 111, 112, 113, 114, 115, 116, 117, 118, 119, 120, 121, 122])) (dNil))))) (dSeq (dIfS (dTest (dOp dEq (dVar 1) (dVar 2))) (dRaise .word) (dNext)) (dSeq (dIfS (dOr (dNot (dTest (dIsA .str (dVar 3)))) (dOr (dTest (dOp dGt (dCB bLen (dCons (dVar 3) (dNil))) (dC (.int 200)))) (dTest (dOp (dIn true) (dVar 3) (dCall 2 sp_raw_readings (dCons (dVar 0) (dCons (dVar 1) (dNil)))))))) (dRaise .reading) (dNext)) (dIfS (dTest (dOp (dIn true) (dVar 3) (dCall 2 sp_raw_readings (dCons (dVar 0) (dCons (dVar 2) (dNil)))))) (dRaise .reading) (dNext)))))
theorem st_need_pair (a0 a1 a2 a3 : D) : startD N_need_pair [a0, a1, a2, a3] = [some a0, some a1, some a2, some a3] := rfl
theorem ok_need_pair (ds : List D) (h : DHp) (Q : DK) (E : DX) (hn : ds.length = 4) (q : sp_need_pair ds h Q E) : m_need_pair (endsD Q E) (startD N_need_pair ds) h := by
  match ds, q with
  | [.tup [.str k, .int a, .int b], w, o, r], ⟨hr, pw, po, pr, lw, lo, lr, q1, q2⟩ =>
    have hs := sizeLine_eq
    have hab := rule_lo hr
    simp only [m_need_pair, st_need_pair, forall_const, true_implies, false_implies, implies_true, and_true, true_and, reduceCtorEq, Bool.not_true, Bool.not_false, Bool.true_xor, Bool.false_xor, Option.some.injEq, exists_eq_left', put_same, onB_bl, dSeq, dNext, dBreak, dDrop, dRet, dRetN, dIfS, dName, dgNil, dgCons, dgTup, dAsg, dPar, dPar3, dSetI, dgSub, dRaise, dVar, dC, dOp, dTest, dAnd, dOr, dNot, dAndV, dOrV, dNotV, dIf, dNil, dCons, dTup, dLst, dCall, dCB, dMt, dMt0, dInC, dIxC, dChain, dNeg, dNoPart, dPart, dSl, exE, dIsA, dCat, catchD, subE, Ex.ix, endsD, dLc, dISeq, dIRng1, dIRng2, dIEnum, dFor, dDcT, dDcK, dCallV, mStarts_str, List.getElem?_cons_zero, List.getElem?_cons_succ, List.set_cons_zero, List.set_cons_succ, onL_lst, isA_non, isA_int_int, isA_bool_int, isA_str_int, isA_tup_int, isA_lst_int, isA_int_str, isA_bool_str, isA_str_str, isA_tup_str, isA_lst_str, isA_int_tup, isA_bool_tup, isA_str_tup, isA_tup_tup, isA_lst_tup, isA_int_bl, isA_bool_bl, isA_str_bl, isA_tup_bl, isA_lst_bl, dAdd_int, dAdd_str, dAdd_tup, dAdd_ref, dSub_int, dLt_int, dLe_int, dGt_int, dGe_int, dMul_int, dMul_str, dMul_ref, dMod_int, dFdiv_int, dPow_int, dIsN_, dNotN_, isNon_int, isNon_non, dEq_str, dEq_int, dNe_str, dNe_int, dIn_sign, dIx_str, dIx_tup, dIx_scr, dIx_ref, dCut_str, dCut_tup, dCut_scr, dCut_ref, bLen_str, bLen_tup, bLen_ref, bInt_int, bInt_bl, bTup_tup, bTup_ref, bList_str, bList_tup, bList_ref, tyD_str, mAppend_ref, mExtend_ref, tyL, dSetL_ref, mJoin_ref, bMin_ref, bMax_ref, atI_0, atI_1, atI_2]
    refine ⟨rfl, pw, lw, fun tw => ⟨rfl, po, lo, fun to => ?_, fun to => ⟨h, Less.refl, q1 fun x y c => by rw [c.2.2.2.1] at to; cases to⟩⟩, fun tw => ⟨h, Less.refl, q1 fun x y c => by rw [c.2.2.1] at tw; cases tw⟩⟩
    obtain ⟨x, rfl, hx, mx⟩ := isText_str tw
    obtain ⟨y, rfl, hy, my⟩ := isText_str to
    simp only [forall_const, true_implies, false_implies, implies_true, and_true, true_and, reduceCtorEq, Bool.not_true, Bool.not_false, Bool.true_xor, Bool.false_xor, Option.some.injEq, exists_eq_left', put_same, onB_bl, dSeq, dNext, dBreak, dDrop, dRet, dRetN, dIfS, dName, dgNil, dgCons, dgTup, dAsg, dPar, dPar3, dSetI, dgSub, dRaise, dVar, dC, dOp, dTest, dAnd, dOr, dNot, dAndV, dOrV, dNotV, dIf, dNil, dCons, dTup, dLst, dCall, dCB, dMt, dMt0, dInC, dIxC, dChain, dNeg, dNoPart, dPart, dSl, exE, dIsA, dCat, catchD, subE, Ex.ix, endsD, dLc, dISeq, dIRng1, dIRng2, dIEnum, dFor, dDcT, dDcK, dCallV, mStarts_str, List.getElem?_cons_zero, List.getElem?_cons_succ, List.set_cons_zero, List.set_cons_succ, onL_lst, isA_non, isA_int_int, isA_bool_int, isA_str_int, isA_tup_int, isA_lst_int, isA_int_str, isA_bool_str, isA_str_str, isA_tup_str, isA_lst_str, isA_int_tup, isA_bool_tup, isA_str_tup, isA_tup_tup, isA_lst_tup, isA_int_bl, isA_bool_bl, isA_str_bl, isA_tup_bl, isA_lst_bl, dAdd_int, dAdd_str, dAdd_tup, dAdd_ref, dSub_int, dLt_int, dLe_int, dGt_int, dGe_int, dMul_int, dMul_str, dMul_ref, dMod_int, dFdiv_int, dPow_int, dIsN_, dNotN_, isNon_int, isNon_non, dEq_str, dEq_int, dNe_str, dNe_int, dIn_sign, dIx_str, dIx_tup, dIx_scr, dIx_ref, dCut_str, dCut_tup, dCut_scr, dCut_ref, bLen_str, bLen_tup, bLen_ref, bInt_int, bInt_bl, bTup_tup, bTup_ref, bList_str, bList_tup, bList_ref, tyD_str, mAppend_ref, mExtend_ref, tyL, dSetL_ref, mJoin_ref, bMin_ref, bMax_ref, atI_0, atI_1, atI_2]
    refine ⟨fun e => ⟨h, Less.refl, q1 fun x' y' c => ?_⟩, fun e => ?_⟩
    · obtain ⟨c1, c2, _, _, c3⟩ := c
      cases c1; cases c2
      exact c3 (by simpa using e)
    · have ne : x ≠ y := by simpa using e
      obtain ⟨q3, q4⟩ := q2 x y ⟨rfl, rfl, tw, to, ne⟩
      obtain ⟨b0, e0⟩ := pr .str
      refine ⟨b0, e0, fun hb => ⟨h, Less.refl, q4 fun z c => ?_⟩, fun hb => ?_⟩
      · have := c.1
        subst this
        have : isA .str (.str z) h = some true := rfl
        rw [this] at e0
        cases e0
        simp at hb
      · have hb : b0 = true := by simpa using hb
        subst hb
        have z : ∃ z, r = .str z := by
          rcases plain_str pr with z | z
          · exact z
          · rw [z] at e0; cases e0
        obtain ⟨z, rfl⟩ := z
        have hz := lr z rfl
        simp only [forall_const, true_implies, false_implies, implies_true, and_true, true_and, reduceCtorEq, Bool.not_true, Bool.not_false, Bool.true_xor, Bool.false_xor, Option.some.injEq, exists_eq_left', put_same, onB_bl, dSeq, dNext, dBreak, dDrop, dRet, dRetN, dIfS, dName, dgNil, dgCons, dgTup, dAsg, dPar, dPar3, dSetI, dgSub, dRaise, dVar, dC, dOp, dTest, dAnd, dOr, dNot, dAndV, dOrV, dNotV, dIf, dNil, dCons, dTup, dLst, dCall, dCB, dMt, dMt0, dInC, dIxC, dChain, dNeg, dNoPart, dPart, dSl, exE, dIsA, dCat, catchD, subE, Ex.ix, endsD, dLc, dISeq, dIRng1, dIRng2, dIEnum, dFor, dDcT, dDcK, dCallV, mStarts_str, List.getElem?_cons_zero, List.getElem?_cons_succ, List.set_cons_zero, List.set_cons_succ, onL_lst, isA_non, isA_int_int, isA_bool_int, isA_str_int, isA_tup_int, isA_lst_int, isA_int_str, isA_bool_str, isA_str_str, isA_tup_str, isA_lst_str, isA_int_tup, isA_bool_tup, isA_str_tup, isA_tup_tup, isA_lst_tup, isA_int_bl, isA_bool_bl, isA_str_bl, isA_tup_bl, isA_lst_bl, dAdd_int, dAdd_str, dAdd_tup, dAdd_ref, dSub_int, dLt_int, dLe_int, dGt_int, dGe_int, dMul_int, dMul_str, dMul_ref, dMod_int, dFdiv_int, dPow_int, dIsN_, dNotN_, isNon_int, isNon_non, dEq_str, dEq_int, dNe_str, dNe_int, dIn_sign, dIx_str, dIx_tup, dIx_scr, dIx_ref, dCut_str, dCut_tup, dCut_scr, dCut_ref, bLen_str, bLen_tup, bLen_ref, bInt_int, bInt_bl, bTup_tup, bTup_ref, bList_str, bList_tup, bList_ref, tyD_str, mAppend_ref, mExtend_ref, tyL, dSetL_ref, mJoin_ref, bMin_ref, bMax_ref, atI_0, atI_1, atI_2]
        refine ⟨by omega, fun h1 => ⟨h, Less.refl, q4 fun z' c => ?_⟩, fun h1 => ⟨rfl, hab.1, hab.2.1, hab.2.2, by omega, fun r1 n1 => ?_⟩⟩
        · have := c.2.1
          cases c.1
          have : 200 < z.length := by have := of_decide_eq_true h1; omega
          omega
        · refine dIn_rs put_same ?_
          simp only [onB_, Bool.true_xor]
          have hz2 : z.length ≤ 200 := by have := of_decide_eq_false h1; omega
          refine ⟨fun h2 => ⟨h, Less.put n1, q4 fun z' c => ?_⟩, fun h2 => ⟨rfl, hab.1, hab.2.1, hab.2.2, by omega, fun r2 n2 => ?_⟩⟩
          · cases c.1
            have := c.2.2.1
            simp [this] at h2
          · refine dIn_rs put_same ?_
            simp only [onB_, Bool.true_xor]
            have l2 : Less h (put (put h r1 (.lst ((readW k x a.toNat b.toNat).map D.str))) r2 (.lst ((readW k y a.toNat b.toNat).map D.str))) := less_new (Less.put n1) n2
            refine ⟨fun h3 => ⟨h, l2, q4 fun z' c => ?_⟩, fun h3 => fgt_less l2 (q3 z ⟨rfl, hz2, by simpa using h2, by simpa using h3⟩)⟩
            cases c.1
            have := c.2.2.2
            simp [this] at h3
def sp_first_shared : SpD := fun ds h Q _ => match ds with
  | [.str k, .tup [.str _, .int a, .int b], .str x, .str y] => 0 ≤ a ∧ a ≤ b ∧ b ≤ 3 ∧ x.length ≤ 1000 ∧ y.length ≤ 1000 ∧ (∃ w, w ∈ readW k x a.toNat b.toNat ∧ w ∈ readW k y a.toNat b.toNat) ∧ ∀ w, w ∈ readW k x a.toNat b.toNat → w ∈ readW k y a.toNat b.toNat → Q (.str w) h
  | _ => False
/-- first_shared(kind, rule, word, other); slots: kind 0, rule 1, word 2, other 3, there 4, reading 5 -/
def N_first_shared : List Str := ["kind", "rule", "word", "other", "there", "reading"]
def m_first_shared : MS := dSeq (dAsg (dDcK (dISeq (dCall 2 sp_raw_readings (dCons (dTup (dCons (dVar 0) (dCons (dOp dIx (dVar 1) (dC (.int 1))) (dCons (dOp dIx (dVar 1) (dC (.int 2))) (dNil))))) (dCons (dVar 3) (dNil))))) (.nm 5) (dYes) (dVar 5) (dC (.bl true)) [5]) (dName 4)) (dRet (dOp dIx (dLc (dISeq (dCall 2 sp_raw_readings (dCons (dTup (dCons (dVar 0) (dCons (dOp dIx (dVar 1) (dC (.int 1))) (dCons (dOp dIx (dVar 1) (dC (.int 2))) (dNil))))) (dCons (dVar 2) (dNil))))) (.nm 5) (dTest (dOp (dIn false) (dVar 5) (dVar 4))) (dVar 5) [5]) (dC (.int 0))))
theorem st_first_shared (a0 a1 a2 a3 : D) : startD N_first_shared [a0, a1, a2, a3] = [some a0, some a1, some a2, some a3, none, none] := rfl
theorem readW_few {k x : Tx} {a b : Nat} (hb : b ≤ 3) (hx : x.length ≤ 1000) : (readW k x a b).length ≤ 4004 := by
  refine Nat.le_trans (inOrder_len _) (Nat.le_trans (tearsL_len _) ?_)
  have : (b + 1 - a) * (x.length + 1) ≤ 4 * 1001 := Nat.mul_le_mul (by omega) (by omega)
  omega
theorem ok_first_shared (ds : List D) (h : DHp) (Q : DK) (E : DX) (hn : ds.length = 4) (q : sp_first_shared ds h Q E) : m_first_shared (endsD Q E) (startD N_first_shared ds) h := by
  match ds, q with
  | [.str k, .tup [.str k', .int a, .int b], .str x, .str y], ⟨h1, h2, h3, hx, hy, ⟨w0, w1, w2⟩, q⟩ =>
    have hs := sizeLine_eq
    simp only [m_first_shared, st_first_shared, forall_const, true_implies, false_implies, implies_true, and_true, true_and, reduceCtorEq, Bool.not_true, Bool.not_false, Bool.true_xor, Bool.false_xor, Option.some.injEq, exists_eq_left', put_same, onB_bl, dSeq, dNext, dBreak, dDrop, dRet, dRetN, dIfS, dName, dgNil, dgCons, dgTup, dAsg, dPar, dPar3, dSetI, dgSub, dRaise, dVar, dC, dOp, dTest, dAnd, dOr, dNot, dAndV, dOrV, dNotV, dIf, dNil, dCons, dTup, dLst, dCall, dCB, dMt, dMt0, dInC, dIxC, dChain, dNeg, dNoPart, dPart, dSl, exE, dIsA, dCat, catchD, subE, Ex.ix, endsD, dLc, dISeq, dIRng1, dIRng2, dIEnum, dFor, dDcT, dDcK, dCallV, mStarts_str, List.getElem?_cons_zero, List.getElem?_cons_succ, List.set_cons_zero, List.set_cons_succ, onL_lst, isA_non, isA_int_int, isA_bool_int, isA_str_int, isA_tup_int, isA_lst_int, isA_int_str, isA_bool_str, isA_str_str, isA_tup_str, isA_lst_str, isA_int_tup, isA_bool_tup, isA_str_tup, isA_tup_tup, isA_lst_tup, isA_int_bl, isA_bool_bl, isA_str_bl, isA_tup_bl, isA_lst_bl, dAdd_int, dAdd_str, dAdd_tup, dAdd_ref, dSub_int, dLt_int, dLe_int, dGt_int, dGe_int, dMul_int, dMul_str, dMul_ref, dMod_int, dFdiv_int, dPow_int, dIsN_, dNotN_, isNon_int, isNon_non, dEq_str, dEq_int, dNe_str, dNe_int, dIn_sign, dIx_str, dIx_tup, dIx_scr, dIx_ref, dCut_str, dCut_tup, dCut_scr, dCut_ref, bLen_str, bLen_tup, bLen_ref, bInt_int, bInt_bl, bTup_tup, bTup_ref, bList_str, bList_tup, bList_ref, tyD_str, mAppend_ref, mExtend_ref, tyL, dSetL_ref, mJoin_ref, bMin_ref, bMax_ref, atI_0, atI_1, atI_2, dDcK]
    refine ⟨by show (3 : Nat) ≤ sizeLine; omega, rfl, h1, h2, h3, hy, fun r1 n1 => ?_⟩
    simp only [put_same]
    have ly := readW_few (k := k) (x := y) (a := a.toNat) (b := b.toNat) (by omega) hy
    have lx := readW_few (k := k) (x := x) (a := a.toNat) (b := b.toNat) (by omega) hx
    refine dkB_map (fun d => match d with | .str z => .inr z | _ => .inl 0) (fun _ => .bl true) put_same (by rw [List.length_map]; omega) (fun d hd => ?_) fun r2 n2 => ?_
    · obtain ⟨z, hz, rfl⟩ := List.mem_map.mp hd
      exact ⟨_, rfl, .str z, rfl, fun K k => k, fun K k => k⟩
    · have ek : ((readW k y a.toNat b.toNat).map D.str).map (fun d => ((match d with | .str z => .inr z | _ => .inl 0 : KeyD), D.bl true)) = ((readW k y a.toNat b.toNat).map fun z => (.inr z : KeyD)).map fun k => (k, D.bl true) := by
        rw [List.map_map, List.map_map]; rfl
      rw [ek]
      have at_ : ∀ z : Tx, (valC (putCs [] (((readW k y a.toNat b.toNat).map fun z => (.inr z : KeyD)).map fun k => (k, D.bl true))) (.inr z)).isSome = decide (z ∈ readW k y a.toNat b.toNat) := by
        intro z
        have c := valCs (.bl true) (.inr z) ((readW k y a.toNat b.toNat).map fun z => (.inr z : KeyD)) []
        by_cases hz : z ∈ readW k y a.toNat b.toNat
        · rw [c.1 (List.mem_map.mpr ⟨z, hz, rfl⟩)]; simp [hz]
        · rw [c.2 (by simpa using hz)]; simp [hz, valC]
      generalize putCs [] (((readW k y a.toNat b.toNat).map fun z => (.inr z : KeyD)).map fun k => (k, D.bl true)) = dd at at_ n2
      have l2 : Less h (put (put h r1 (.lst ((readW k y a.toNat b.toNat).map D.str))) r2 (.dct dd)) := less_new (Less.put n1) n2
      have e2 : put (put h r1 (.lst ((readW k y a.toNat b.toNat).map D.str))) r2 (.dct dd) r2 = some (.dct dd) := put_same
      generalize put (put h r1 (.lst ((readW k y a.toNat b.toNat).map D.str))) r2 (.dct dd) = g at l2 e2
      refine ⟨by show (3 : Nat) ≤ sizeLine; omega, rfl, h1, h2, h3, hx, fun r3 n3 => ?_⟩
      have e3 := put_old (o := .lst ((readW k x a.toNat b.toNat).map D.str)) e2 n3
      simp only [put_same]
      refine lcB_filter (fun d => match d with | .str z => decide (z ∈ readW k y a.toNat b.toNat) | _ => false) id put_same (by rw [List.length_map]; omega) (fun d hd => ?_) fun r4 n4 => ?_
      · obtain ⟨z, hz, rfl⟩ := List.mem_map.mp hd
        refine ⟨_, rfl, fun K k => ?_, fun _ K k => k⟩
        show dIn false (.str z) (.ref r2) _ (fun d h1 => onB d fun b => K b h1)
        refine dIn_dct_str e3 ?_
        rw [at_]
        simpa only [onB_, Bool.false_xor] using k
      · have ef : ((((readW k x a.toNat b.toNat).map D.str).filter fun d => (match d with | .str z => decide (z ∈ readW k y a.toNat b.toNat) | _ => false)).map id) = ((readW k x a.toNat b.toNat).filter fun z => decide (z ∈ readW k y a.toNat b.toNat)).map D.str := by
          rw [List.map_id, List.filter_map]; rfl
        rw [ef]
        have l4 := less_new (o := .lst (((readW k x a.toNat b.toNat).filter fun z => decide (z ∈ readW k y a.toNat b.toNat)).map D.str)) (less_new (o := .lst ((readW k x a.toNat b.toNat).map D.str)) l2 n3) n4
        have mem : ∀ z, z ∈ ((readW k x a.toNat b.toNat).filter fun z => decide (z ∈ readW k y a.toNat b.toNat)) → z ∈ readW k x a.toNat b.toNat ∧ z ∈ readW k y a.toNat b.toNat := fun z hz => by simpa using hz
        have m0 : w0 ∈ ((readW k x a.toNat b.toNat).filter fun z => decide (z ∈ readW k y a.toNat b.toNat)) := by simp [w1, w2]
        simp only [forall_const, true_implies, false_implies, implies_true, and_true, true_and, reduceCtorEq, Bool.not_true, Bool.not_false, Bool.true_xor, Bool.false_xor, Option.some.injEq, exists_eq_left', put_same, onB_bl, dSeq, dNext, dBreak, dDrop, dRet, dRetN, dIfS, dName, dgNil, dgCons, dgTup, dAsg, dPar, dPar3, dSetI, dgSub, dRaise, dVar, dC, dOp, dTest, dAnd, dOr, dNot, dAndV, dOrV, dNotV, dIf, dNil, dCons, dTup, dLst, dCall, dCB, dMt, dMt0, dInC, dIxC, dChain, dNeg, dNoPart, dPart, dSl, exE, dIsA, dCat, catchD, subE, Ex.ix, endsD, dLc, dISeq, dIRng1, dIRng2, dIEnum, dFor, dDcT, dDcK, dCallV, mStarts_str, List.getElem?_cons_zero, List.getElem?_cons_succ, List.set_cons_zero, List.set_cons_succ, onL_lst, isA_non, isA_int_int, isA_bool_int, isA_str_int, isA_tup_int, isA_lst_int, isA_int_str, isA_bool_str, isA_str_str, isA_tup_str, isA_lst_str, isA_int_tup, isA_bool_tup, isA_str_tup, isA_tup_tup, isA_lst_tup, isA_int_bl, isA_bool_bl, isA_str_bl, isA_tup_bl, isA_lst_bl, dAdd_int, dAdd_str, dAdd_tup, dAdd_ref, dSub_int, dLt_int, dLe_int, dGt_int, dGe_int, dMul_int, dMul_str, dMul_ref, dMod_int, dFdiv_int, dPow_int, dIsN_, dNotN_, isNon_int, isNon_non, dEq_str, dEq_int, dNe_str, dNe_int, dIn_sign, dIx_str, dIx_tup, dIx_scr, dIx_ref, dCut_str, dCut_tup, dCut_scr, dCut_ref, bLen_str, bLen_tup, bLen_ref, bInt_int, bInt_bl, bTup_tup, bTup_ref, bList_str, bList_tup, bList_ref, tyD_str, mAppend_ref, mExtend_ref, tyL, dSetL_ref, mJoin_ref, bMin_ref, bMax_ref, atI_0, atI_1, atI_2]
        generalize ((readW k x a.toNat b.toNat).filter fun z => decide (z ∈ readW k y a.toNat b.toNat)) = L at l4 mem m0
        cases L with
        | nil => cases m0
        | cons v L =>
          refine ⟨.str v, atI_0, fgt_less l4 ?_⟩
          have := mem v (by simp)
          exact q v this.1 this.2
/-- as_open, as_closed: kinds ks, told by the kind k2 -/
def asSp (ks : List Tx) (k2 : Tx) : SpD := fun ds h Q E => match ds with
  | [t, w, o, r] => Plain t h ∧ (∀ xs, t = .tup xs → ∀ x ∈ xs, Plain x h) ∧ Plain w h ∧ Plain o h ∧ Plain r h ∧ (∀ x, w = .str x → x.length ≤ 10000) ∧ (∀ x, o = .str x → x.length ≤ 10000) ∧ (∀ x, r = .str x → x.length ≤ 10000) ∧
    (isKindR t ks = false → E .rule h) ∧ ∀ k a b, t = .tup [.str k, .int a, .int b] → isKindR t ks = true → ((∀ x y, ¬ twoW w o x y) → E .word h) ∧ ∀ x y, twoW w o x y →
      (∀ z, sharedR k a.toNat b.toNat x y r z → ∀ v, v ∈ readW k2 x a.toNat b.toNat → v ∈ readW k2 y a.toNat b.toNat → Q (.str v) h) ∧ ((∀ z, ¬ sharedR k a.toNat b.toNat x y r z) → E .reading h)
  | _ => False
def sp_as_open : SpD := asSp [kF] kO
def sp_as_closed : SpD := asSp [kO, kD] kC
theorem kindR_rule {t : D} {ks : List Tx} (h : isKindR t ks = true) : isRule t = true ∧ ∃ k a b, t = .tup [.str k, .int a, .int b] ∧ k ∈ ks := by
  unfold isKindR at h
  rw [Bool.and_eq_true] at h
  obtain ⟨h1, h2⟩ := h
  refine ⟨h1, ?_⟩
  unfold isRule at h1
  split at h1
  · rename_i k a b
    have z : ∃ i j, a = .int i ∧ b = .int j := by
      split at h1
      · rename_i m e
        rw [Bool.and_eq_true] at h1
        cases b with
        | int j =>
          cases a with
          | int i => exact ⟨i, j, rfl, rfl⟩
          | _ => simp [within] at h1
        | _ => simp [within] at h1
      · cases h1
    obtain ⟨i, j, rfl, rfl⟩ := z
    exact ⟨k, i, j, rfl, by simpa using h2⟩
  · cases h1
/-- as_open(rule, word, other, reading); slots: rule 0, word 1, other 2, reading 3 -/
def N_as_open : List Str := ["rule", "word", "other", "reading"]
def m_as_open : MS := dSeq (dDrop (dCall 2 sp_need_kind (dCons (dVar 0) (dCons (dTup (dCons (dC (.str [102, 97, 100, 101, 100])) (dNil))) (dNil))))) (dSeq (dDrop (dCall 4 sp_need_pair (dCons (dVar 0) (dCons (dVar 1) (dCons (dVar 2) (dCons (dVar 3) (dNil))))))) (dRet (dCall 4 sp_first_shared (dCons (dC (.str [111, 112, 101, 110])) (dCons (dVar 0) (dCons (dVar 1) (dCons (dVar 2) (dNil))))))))
theorem st_as_open (a0 a1 a2 a3 : D) : startD N_as_open [a0, a1, a2, a3] = [some a0, some a1, some a2, some a3] := rfl
theorem ok_as_open (ds : List D) (h : DHp) (Q : DK) (E : DX) (hn : ds.length = 4) (q : sp_as_open ds h Q E) : m_as_open (endsD Q E) (startD N_as_open ds) h := by
  match ds, q with
  | [t, w, o, r], ⟨pt, pp, pw, po, pr, lw, lo, lr, q1, q2⟩ =>
    have hs := sizeLine_eq
    simp only [m_as_open, st_as_open, forall_const, true_implies, false_implies, implies_true, and_true, true_and, reduceCtorEq, Bool.not_true, Bool.not_false, Bool.true_xor, Bool.false_xor, Option.some.injEq, exists_eq_left', put_same, onB_bl, dSeq, dNext, dBreak, dDrop, dRet, dRetN, dIfS, dName, dgNil, dgCons, dgTup, dAsg, dPar, dPar3, dSetI, dgSub, dRaise, dVar, dC, dOp, dTest, dAnd, dOr, dNot, dAndV, dOrV, dNotV, dIf, dNil, dCons, dTup, dLst, dCall, dCB, dMt, dMt0, dInC, dIxC, dChain, dNeg, dNoPart, dPart, dSl, exE, dIsA, dCat, catchD, subE, Ex.ix, endsD, dLc, dISeq, dIRng1, dIRng2, dIEnum, dFor, dDcT, dDcK, dCallV, mStarts_str, List.getElem?_cons_zero, List.getElem?_cons_succ, List.set_cons_zero, List.set_cons_succ, onL_lst, isA_non, isA_int_int, isA_bool_int, isA_str_int, isA_tup_int, isA_lst_int, isA_int_str, isA_bool_str, isA_str_str, isA_tup_str, isA_lst_str, isA_int_tup, isA_bool_tup, isA_str_tup, isA_tup_tup, isA_lst_tup, isA_int_bl, isA_bool_bl, isA_str_bl, isA_tup_bl, isA_lst_bl, dAdd_int, dAdd_str, dAdd_tup, dAdd_ref, dSub_int, dLt_int, dLe_int, dGt_int, dGe_int, dMul_int, dMul_str, dMul_ref, dMod_int, dFdiv_int, dPow_int, dIsN_, dNotN_, isNon_int, isNon_non, dEq_str, dEq_int, dNe_str, dNe_int, dIn_sign, dIx_str, dIx_tup, dIx_scr, dIx_ref, dCut_str, dCut_tup, dCut_scr, dCut_ref, bLen_str, bLen_tup, bLen_ref, bInt_int, bInt_bl, bTup_tup, bTup_ref, bList_str, bList_tup, bList_ref, tyD_str, mAppend_ref, mExtend_ref, tyL, dSetL_ref, mJoin_ref, bMin_ref, bMax_ref, atI_0, atI_1, atI_2]
    refine ⟨by show (1 : Nat) ≤ sizeLine; omega, rfl, pt, pp, [kF], rfl, fun hk => ?_, fun hk => ⟨h, Less.refl, q1 hk⟩⟩
    obtain ⟨hr, k, a, b, rfl, km⟩ := kindR_rule hk
    have hab := rule_lo hr
    obtain ⟨q3, q4⟩ := q2 k a b rfl hk
    refine ⟨rfl, hr, pw, po, pr, lw, lo, lr, fun c => ⟨h, Less.refl, q3 c⟩, fun x y c => ?_⟩
    obtain ⟨q5, q6⟩ := q4 x y c
    refine ⟨fun z sh => ?_, fun d => ⟨h, Less.refl, q6 d⟩⟩
    obtain ⟨rfl, rfl, t1, t2, ne⟩ := c
    obtain ⟨x', e, hx, mx⟩ := isText_str t1
    cases e
    obtain ⟨y', e, hy, my⟩ := isText_str t2
    cases e
    have ek : k = kF := by simpa using km
    subst ek
    exact ⟨rfl, hab.1, hab.2.1, hab.2.2, by omega, by omega, open_of_faded mx my ne sh.2.2.1 sh.2.2.2, fun v v1 v2 => fgt_here (q5 z sh v v1 v2)⟩
/-- as_closed(rule, word, other, reading); slots: rule 0, word 1, other 2, reading 3 -/
def N_as_closed : List Str := ["rule", "word", "other", "reading"]
def m_as_closed : MS := dSeq (dDrop (dCall 2 sp_need_kind (dCons (dVar 0) (dCons (dTup (dCons (dC (.str [111, 112, 101, 110])) (dCons (dC (.str [100, 111, 117, 98, 108, 101, 100])) (dNil)))) (dNil))))) (dSeq (dDrop (dCall 4 sp_need_pair (dCons (dVar 0) (dCons (dVar 1) (dCons (dVar 2) (dCons (dVar 3) (dNil))))))) (dRet (dCall 4 sp_first_shared (dCons (dC (.str [99, 108, 111, 115, 101, 100])) (dCons (dVar 0) (dCons (dVar 1) (dCons (dVar 2) (dNil))))))))
theorem st_as_closed (a0 a1 a2 a3 : D) : startD N_as_closed [a0, a1, a2, a3] = [some a0, some a1, some a2, some a3] := rfl
theorem dbl_most {a b : D} (hr : isRule (.tup [.str kD, a, b]) = true) : ∃ i : Int, b = .int i ∧ i ≤ 2 := by
  simp only [isRule] at hr
  have e : k_BOUNDS kD = some (.int 2) := rfl
  rw [e] at hr
  rw [Bool.and_eq_true] at hr
  cases b with
  | int j =>
    have := hr.1
    simp only [within, Bool.and_eq_true, decide_eq_true_eq] at this
    exact ⟨j, rfl, this.2⟩
  | _ => simp [within] at hr
theorem ok_as_closed (ds : List D) (h : DHp) (Q : DK) (E : DX) (hn : ds.length = 4) (q : sp_as_closed ds h Q E) : m_as_closed (endsD Q E) (startD N_as_closed ds) h := by
  match ds, q with
  | [t, w, o, r], ⟨pt, pp, pw, po, pr, lw, lo, lr, q1, q2⟩ =>
    have hs := sizeLine_eq
    simp only [m_as_closed, st_as_closed, forall_const, true_implies, false_implies, implies_true, and_true, true_and, reduceCtorEq, Bool.not_true, Bool.not_false, Bool.true_xor, Bool.false_xor, Option.some.injEq, exists_eq_left', put_same, onB_bl, dSeq, dNext, dBreak, dDrop, dRet, dRetN, dIfS, dName, dgNil, dgCons, dgTup, dAsg, dPar, dPar3, dSetI, dgSub, dRaise, dVar, dC, dOp, dTest, dAnd, dOr, dNot, dAndV, dOrV, dNotV, dIf, dNil, dCons, dTup, dLst, dCall, dCB, dMt, dMt0, dInC, dIxC, dChain, dNeg, dNoPart, dPart, dSl, exE, dIsA, dCat, catchD, subE, Ex.ix, endsD, dLc, dISeq, dIRng1, dIRng2, dIEnum, dFor, dDcT, dDcK, dCallV, mStarts_str, List.getElem?_cons_zero, List.getElem?_cons_succ, List.set_cons_zero, List.set_cons_succ, onL_lst, isA_non, isA_int_int, isA_bool_int, isA_str_int, isA_tup_int, isA_lst_int, isA_int_str, isA_bool_str, isA_str_str, isA_tup_str, isA_lst_str, isA_int_tup, isA_bool_tup, isA_str_tup, isA_tup_tup, isA_lst_tup, isA_int_bl, isA_bool_bl, isA_str_bl, isA_tup_bl, isA_lst_bl, dAdd_int, dAdd_str, dAdd_tup, dAdd_ref, dSub_int, dLt_int, dLe_int, dGt_int, dGe_int, dMul_int, dMul_str, dMul_ref, dMod_int, dFdiv_int, dPow_int, dIsN_, dNotN_, isNon_int, isNon_non, dEq_str, dEq_int, dNe_str, dNe_int, dIn_sign, dIx_str, dIx_tup, dIx_scr, dIx_ref, dCut_str, dCut_tup, dCut_scr, dCut_ref, bLen_str, bLen_tup, bLen_ref, bInt_int, bInt_bl, bTup_tup, bTup_ref, bList_str, bList_tup, bList_ref, tyD_str, mAppend_ref, mExtend_ref, tyL, dSetL_ref, mJoin_ref, bMin_ref, bMax_ref, atI_0, atI_1, atI_2]
    refine ⟨by show (2 : Nat) ≤ sizeLine; omega, rfl, pt, pp, [kO, kD], rfl, fun hk => ?_, fun hk => ⟨h, Less.refl, q1 hk⟩⟩
    obtain ⟨hr, k, a, b, rfl, km⟩ := kindR_rule hk
    have hab := rule_lo hr
    obtain ⟨q3, q4⟩ := q2 k a b rfl hk
    refine ⟨rfl, hr, pw, po, pr, lw, lo, lr, fun c => ⟨h, Less.refl, q3 c⟩, fun x y c => ?_⟩
    obtain ⟨q5, q6⟩ := q4 x y c
    refine ⟨fun z sh => ?_, fun d => ⟨h, Less.refl, q6 d⟩⟩
    obtain ⟨rfl, rfl, t1, t2, ne⟩ := c
    obtain ⟨x', e, hx, mx⟩ := isText_str t1
    cases e
    obtain ⟨y', e, hy, my⟩ := isText_str t2
    cases e
    refine ⟨rfl, hab.1, hab.2.1, hab.2.2, by omega, by omega, ?_, fun v v1 v2 => fgt_here (q5 z sh v v1 v2)⟩
    have ek : k = kO ∨ k = kD := by simpa using km
    rcases ek with rfl | rfl
    · exact closed_of_open mx my sh.2.2.1 sh.2.2.2
    · obtain ⟨i, e, hi⟩ := dbl_most hr
      cases e
      exact closed_of_doubled (by omega) sh.2.2.1 sh.2.2.2
end Tw

namespace Tw
open PySem PySem.Spec PyProof.Rows L2
theorem cut_to {α : Type} (x : List α) (k : Nat) : cutD x none (some (k : Int)) = x.take k := by
  unfold cutD
  rw [HT.sIx_none, HT.sIx_nat, Nat.sub_zero, List.drop_zero]
  by_cases h : k ≤ x.length
  · rw [Nat.min_eq_left h]
  · rw [Nat.min_eq_right (by omega), List.take_length, List.take_of_length_le (by omega)]
theorem cut_from {α : Type} (x : List α) (k : Nat) : cutD x (some (k : Int)) none = x.drop k := by
  unfold cutD
  rw [HT.sIx_none, HT.sIx_nat]
  by_cases h : k ≤ x.length
  · rw [Nat.min_eq_left h, List.take_of_length_le (by rw [List.length_drop]; omega)]
  · rw [Nat.min_eq_right (by omega), List.drop_eq_nil_of_le (by omega), List.drop_eq_nil_of_le (by omega), List.take_nil]
theorem cut_seg {α : Type} (x : List α) (i m : Nat) : cutD x (some (i : Int)) (some ((i : Int) + m)) = (x.drop i).take m := by
  unfold cutD
  rw [← Int.natCast_add, HT.sIx_nat, HT.sIx_nat]
  by_cases h : i ≤ x.length
  · rw [Nat.min_eq_left h]
    by_cases h2 : i + m ≤ x.length
    · rw [Nat.min_eq_left h2, Nat.add_sub_cancel_left]
    · rw [Nat.min_eq_right (by omega), List.take_of_length_le (by rw [List.length_drop]; omega), List.take_of_length_le (by rw [List.length_drop]; omega)]
  · rw [Nat.min_eq_right (by omega), List.drop_eq_nil_of_le (by omega), List.drop_eq_nil_of_le (by omega), List.take_nil, List.take_nil]
theorem mv_end_new {Q : DK} {h g : DHp} {p r : Addr} {m : Int} {o : DO} (M : Mv h p m g) (nr : g r = none) (q : ∀ g', Moved h p m g' → g' r = none → Q (.ref r) (put g' r o)) : Fgt Q (.ref r) (put g r o) := by
  obtain ⟨c, k, v, k', v', hp, h1, h2, l⟩ := M
  exact ⟨put (put h p (.lst [.ref c, .int k', .int v'])) r o, less_both l, q _ ⟨c, k, v, k', v', hp, rfl, h1, h2⟩ (less_none l nr)⟩
theorem mv_same {h g : DHp} {p a : Addr} {m : Int} {o : DO} (M : Mv h p m g) (e : h a = some o) (n : a ≠ p) : g a = some o := by
  obtain ⟨c, k, v, k', v', hp, h1, h2, l⟩ := M
  exact l a o (by rw [put_ne n]; exact e)
abbrev ABZ : Tx := [97, 98, 122]
theorem abz_small {c : Nat} (h : c ∈ ABZ) : c ∈ SMALL := by
  have : ∀ c ∈ ABZ, c ∈ SMALL := by decide
  exact this c h
def allS (x : Tx) : Prop := ∀ c ∈ x, c ∈ SMALL
theorem allS_made {x : Tx} (h : allS x) : madeOf x SMALL = true := by
  unfold madeOf
  rw [List.all_eq_true]
  intro c hc
  simpa using h c hc
theorem allS_take {x : Tx} {n : Nat} (h : allS x) : allS (x.take n) := fun c hc => h c (List.mem_of_mem_take hc)
theorem allS_drop {x : Tx} {n : Nat} (h : allS x) : allS (x.drop n) := fun c hc => h c (List.mem_of_mem_drop hc)
theorem allS_app {x y : Tx} (h : allS x) (g : allS y) : allS (x ++ y) := fun c hc => by
  rcases List.mem_append.mp hc with hc | hc
  · exact h c hc
  · exact g c hc
theorem allS_rep {x : Tx} {n : Nat} (h : allS x) : allS (repD n x) := fun c hc => by
  unfold repD at hc
  obtain ⟨l, hl, hc2⟩ := List.mem_flatten.mp hc
  rw [(List.mem_replicate.mp hl).2] at hc2
  exact h c hc2
def sp__law_text : SpD := fun ds h Q _ => match ds with
  | [.ref p, .int many] => Pen h p 999900 ∧ 1 ≤ many ∧ many ≤ 4 ∧ ∀ x g, (x.length : Int) ≤ many → allS x → Moved h p 10 g → Q (.str x) g
  | _ => False
/-- _law_text(pen, many); slots: pen 0, many 1, piece 2, again 3 -/
def N__law_text : List Str := ["pen", "many", "piece", "again"]
def m__law_text : MS := dSeq (dAsg (dMt "str" mJoin (dC (.str [])) (dCons (dLc (dIRng1 (dCons (dOp dAdd (dC (.int 1)) (dCall 2 sp__law_take (dCons (dVar 0) (dCons (dC (.int 3)) (dNil))))) (dNil))) (.nm 3) (dYes) (dCall 2 sp__law_one_of (dCons (dVar 0) (dCons (dSl (dC (.str [97, 98, 122])) (dNoPart) (dPart (dOp dAdd (dC (.int 2)) (dCall 2 sp__law_take (dCons (dVar 0) (dCons (dC (.int 2)) (dNil))))))) (dNil)))) [3]) (dNil))) (dName 2)) (dRet (dIf (dTest (dOp dEq (dCall 2 sp__law_take (dCons (dVar 0) (dCons (dC (.int 2)) (dNil)))) (dC (.int 0)))) (dSl (dOp dMul (dVar 2) (dVar 1)) (dNoPart) (dPart (dCall 2 sp__law_take (dCons (dVar 0) (dCons (dOp dAdd (dVar 1) (dC (.int 1))) (dNil)))))) (dSl (dVar 2) (dNoPart) (dPart (dVar 1)))))
theorem st__law_text (a0 a1 : D) : startD N__law_text [a0, a1] = [some a0, some a1, none, none] := rfl
theorem ok__law_text (ds : List D) (h : DHp) (Q : DK) (E : DX) (hn : ds.length = 2) (q : sp__law_text ds h Q E) : m__law_text (endsD Q E) (startD N__law_text ds) h := by
  have hs := sizeLine_eq
  match ds, q with
  | [.ref p, .int many], ⟨P, y1, y2, q⟩ =>
    obtain ⟨mn, rfl⟩ := Int.eq_ofNat_of_zero_le (show 0 ≤ many by omega)
    simp only [m__law_text, st__law_text, forall_const, true_implies, false_implies, implies_true, and_true, true_and, reduceCtorEq, Bool.not_true, Bool.not_false, Bool.true_xor, Bool.false_xor, Option.some.injEq, exists_eq_left', put_same, onB_bl, dSeq, dNext, dBreak, dDrop, dRet, dRetN, dIfS, dName, dgNil, dgCons, dgTup, dAsg, dPar, dPar3, dSetI, dgSub, dRaise, dVar, dC, dOp, dTest, dAnd, dOr, dNot, dAndV, dOrV, dNotV, dIf, dNil, dCons, dTup, dLst, dCall, dCB, dMt, dMt0, dInC, dIxC, dChain, dNeg, dNoPart, dPart, dSl, exE, dIsA, dCat, catchD, subE, Ex.ix, endsD, dLc, dISeq, dIRng1, dIRng2, dIEnum, dFor, dDcT, dDcK, dCallV, mStarts_str, List.getElem?_cons_zero, List.getElem?_cons_succ, List.set_cons_zero, List.set_cons_succ, onL_lst, isA_non, isA_int_int, isA_bool_int, isA_str_int, isA_tup_int, isA_lst_int, isA_int_str, isA_bool_str, isA_str_str, isA_tup_str, isA_lst_str, isA_int_tup, isA_bool_tup, isA_str_tup, isA_tup_tup, isA_lst_tup, isA_int_bl, isA_bool_bl, isA_str_bl, isA_tup_bl, isA_lst_bl, dAdd_int, dAdd_str, dAdd_tup, dAdd_ref, dSub_int, dLt_int, dLe_int, dGt_int, dGe_int, dMul_int, dMul_str, dMul_ref, dMod_int, dFdiv_int, dPow_int, dIsN_, dNotN_, isNon_int, isNon_non, dEq_str, dEq_int, dNe_str, dNe_int, dIn_sign, dIx_str, dIx_tup, dIx_scr, dIx_ref, dCut_str, dCut_tup, dCut_scr, dCut_ref, bLen_str, bLen_tup, bLen_ref, bInt_int, bInt_bl, bTup_tup, bTup_ref, bList_str, bList_tup, bList_ref, tyD_str, mAppend_ref, mExtend_ref, tyL, dSetL_ref, mJoin_ref, bMin_ref, bMax_ref, atI_0, atI_1, atI_2]
    refine take_mv P (mv_refl P) (by omega) (by omega) (by omega) fun n g n0 n1 M => ⟨by omega, ?_⟩
    refine ⟨fun i acc h' => i ≤ (1 + n).toNat ∧ Mv h p (1 + 2 * i) h' ∧ ∃ cs : Tx, cs.length = i ∧ acc = cs.map (fun c => .str [c]) ∧ allS cs, ⟨Nat.zero_le _, mv_le M (by omega), [], rfl, rfl, by simp [allS]⟩, ?_⟩
    rintro i acc g ⟨hi, M, cs, hl, rfl, hc⟩
    refine ⟨True.intro, fun e r nr => ?_, fun d hd => ?_⟩
    · have M1 := mv_new (o := .lst (cs.map fun c => .str [c])) M nr
      refine ⟨cs.map fun c => [c], by simp [itemsD, put_same], by rw [sum_signs]; simp; omega, ?_⟩
      rw [signs_join]
      refine take_mv P M1 (by omega) (by omega) (by omega) fun t g t0 t1 M => ⟨fun _ => ?_, fun _ => ?_⟩
      · have hr : (repD mn cs).length = mn * cs.length := repD_len _ _
        have hm : mn * cs.length ≤ 4 * 3 := Nat.mul_le_mul (by omega) (by omega)
        have hm2 : cs.length * mn = mn * cs.length := Nat.mul_comm _ _
        simp only [forall_const, true_implies, false_implies, implies_true, and_true, true_and, reduceCtorEq, Bool.not_true, Bool.not_false, Bool.true_xor, Bool.false_xor, Option.some.injEq, exists_eq_left', put_same, onB_bl, dSeq, dNext, dBreak, dDrop, dRet, dRetN, dIfS, dName, dgNil, dgCons, dgTup, dAsg, dPar, dPar3, dSetI, dgSub, dRaise, dVar, dC, dOp, dTest, dAnd, dOr, dNot, dAndV, dOrV, dNotV, dIf, dNil, dCons, dTup, dLst, dCall, dCB, dMt, dMt0, dInC, dIxC, dChain, dNeg, dNoPart, dPart, dSl, exE, dIsA, dCat, catchD, subE, Ex.ix, endsD, dLc, dISeq, dIRng1, dIRng2, dIEnum, dFor, dDcT, dDcK, dCallV, mStarts_str, List.getElem?_cons_zero, List.getElem?_cons_succ, List.set_cons_zero, List.set_cons_succ, onL_lst, isA_non, isA_int_int, isA_bool_int, isA_str_int, isA_tup_int, isA_lst_int, isA_int_str, isA_bool_str, isA_str_str, isA_tup_str, isA_lst_str, isA_int_tup, isA_bool_tup, isA_str_tup, isA_tup_tup, isA_lst_tup, isA_int_bl, isA_bool_bl, isA_str_bl, isA_tup_bl, isA_lst_bl, dAdd_int, dAdd_str, dAdd_tup, dAdd_ref, dSub_int, dLt_int, dLe_int, dGt_int, dGe_int, dMul_int, dMul_str, dMul_ref, dMod_int, dFdiv_int, dPow_int, dIsN_, dNotN_, isNon_int, isNon_non, dEq_str, dEq_int, dNe_str, dNe_int, dIn_sign, dIx_str, dIx_tup, dIx_scr, dIx_ref, dCut_str, dCut_tup, dCut_scr, dCut_ref, bLen_str, bLen_tup, bLen_ref, bInt_int, bInt_bl, bTup_tup, bTup_ref, bList_str, bList_tup, bList_ref, tyD_str, mAppend_ref, mExtend_ref, tyL, dSetL_ref, mJoin_ref, bMin_ref, bMax_ref, atI_0, atI_1, atI_2, Int.toNat_natCast]
        refine ⟨⟨by omega, by omega, by omega⟩, take_mv P M (by omega) (by omega) (by omega) fun u g u0 u1 M => ⟨by omega, ?_⟩⟩
        obtain ⟨un, rfl⟩ := Int.eq_ofNat_of_zero_le u0
        rw [cut_to]
        refine mv_end (mv_le M (by omega)) fun g M => q _ _ ?_ (allS_take (allS_rep hc)) M
        rw [List.length_take]; omega
      · refine ⟨by omega, ?_⟩
        rw [cut_to]
        refine mv_end (mv_le M (by omega)) fun g M => q _ _ ?_ (allS_take hc) M
        rw [List.length_take]; omega
    · obtain ⟨hin, rfl⟩ := rngD_get hd
      refine ⟨_, rfl, fun _ => ?_, fun z => by cases z⟩
      simp only [forall_const, true_implies, false_implies, implies_true, and_true, true_and, reduceCtorEq, Bool.not_true, Bool.not_false, Bool.true_xor, Bool.false_xor, Option.some.injEq, exists_eq_left', put_same, onB_bl, dSeq, dNext, dBreak, dDrop, dRet, dRetN, dIfS, dName, dgNil, dgCons, dgTup, dAsg, dPar, dPar3, dSetI, dgSub, dRaise, dVar, dC, dOp, dTest, dAnd, dOr, dNot, dAndV, dOrV, dNotV, dIf, dNil, dCons, dTup, dLst, dCall, dCB, dMt, dMt0, dInC, dIxC, dChain, dNeg, dNoPart, dPart, dSl, exE, dIsA, dCat, catchD, subE, Ex.ix, endsD, dLc, dISeq, dIRng1, dIRng2, dIEnum, dFor, dDcT, dDcK, dCallV, mStarts_str, List.getElem?_cons_zero, List.getElem?_cons_succ, List.set_cons_zero, List.set_cons_succ, onL_lst, isA_non, isA_int_int, isA_bool_int, isA_str_int, isA_tup_int, isA_lst_int, isA_int_str, isA_bool_str, isA_str_str, isA_tup_str, isA_lst_str, isA_int_tup, isA_bool_tup, isA_str_tup, isA_tup_tup, isA_lst_tup, isA_int_bl, isA_bool_bl, isA_str_bl, isA_tup_bl, isA_lst_bl, dAdd_int, dAdd_str, dAdd_tup, dAdd_ref, dSub_int, dLt_int, dLe_int, dGt_int, dGe_int, dMul_int, dMul_str, dMul_ref, dMod_int, dFdiv_int, dPow_int, dIsN_, dNotN_, isNon_int, isNon_non, dEq_str, dEq_int, dNe_str, dNe_int, dIn_sign, dIx_str, dIx_tup, dIx_scr, dIx_ref, dCut_str, dCut_tup, dCut_scr, dCut_ref, bLen_str, bLen_tup, bLen_ref, bInt_int, bInt_bl, bTup_tup, bTup_ref, bList_str, bList_tup, bList_ref, tyD_str, mAppend_ref, mExtend_ref, tyL, dSetL_ref, mJoin_ref, bMin_ref, bMax_ref, atI_0, atI_1, atI_2]
      refine take_mv P M (by omega) (by omega) (by omega) fun t g t0 t1 M => ⟨by show (3 : Nat) ≤ sizeLine; omega, ?_⟩
      obtain ⟨tn, rfl⟩ := Int.eq_ofNat_of_zero_le t0
      have hx : ∃ y : Tx, cutD [97, 98, 122] none (some (2 + (tn : Int))) = y ∧ y ≠ [] ∧ y.length ≤ 3 ∧ allS y := by
        have : tn = 0 ∨ tn = 1 := by omega
        rcases this with rfl | rfl
        · exact ⟨[97, 98], rfl, by simp, by simp, fun c hc => abz_small (List.mem_of_mem_take (i := 2) (l := ABZ) hc)⟩
        · exact ⟨[97, 98, 122], rfl, by simp, by simp, fun c hc => abz_small hc⟩
      obtain ⟨y, ey, y0, y3, yS⟩ := hx
      rw [ey]
      refine one_str P M (by omega) y0 (by omega) fun c hcx g M => ⟨by rw [List.length_map]; omega, by omega, mv_le M (by omega), cs ++ [c], by simp [hl], by simp, allS_app hc fun c' h' => ?_⟩
      simp at h'
      subst h'
      exact yS _ hcx
/-- what a reading of a kind is made of -/
def likeR (k z : Tx) : Prop := z.length ≤ 16 ∧ (k = kF → ∀ c ∈ z, c ∈ SMALL ∨ c = 63) ∧ (k = kO → (∀ c ∈ z, c ∈ SMALL ∨ c = 42) ∧ z.count 42 ≤ 1) ∧ (k ≠ kF → k ≠ kO → allS z)
theorem allS_count {x : Tx} (h : allS x) : x.count 42 = 0 := by
  rw [List.count_eq_zero]
  intro hc
  have : ¬ (42 : Nat) ∈ SMALL := by decide
  exact this (h _ hc)
def sp__law_any_reading : SpD := fun ds h Q _ => match ds with
  | [.ref p, .tup [.str k, .int a, .int b]] => Pen h p 999800 ∧ 0 ≤ a ∧ a ≤ b ∧ b ≤ 3 ∧ ∀ z g, likeR k z → Moved h p 40 g → Q (.str z) g
  | _ => False
/-- _law_any_reading(pen, rule); slots: pen 0, rule 1, piece 2, kind 3, least 4, most 5, one 6, other 7 -/
def N__law_any_reading : List Str := ["pen", "rule", "piece", "kind", "least", "most", "one", "other"]
def m__law_any_reading : MS := dSeq (dAsg (dVar 1) (dgTup 3 (dgCons (dName 3) (dgCons (dName 4) (dgCons (dName 5) (dgNil)))))) (dSeq (dPar 6 7 (dCons (dCall 2 sp__law_text (dCons (dVar 0) (dCons (dC (.int 4)) (dNil)))) (dCons (dCall 2 sp__law_text (dCons (dVar 0) (dCons (dC (.int 4)) (dNil)))) (dNil)))) (dSeq (dIfS (dTest (dOp dEq (dVar 3) (dC (.str [102, 97, 100, 101, 100])))) (dRet (dOp dAdd (dOp dAdd (dVar 6) (dOp dMul (dC (.str [63])) (dOp dAdd (dVar 4) (dCall 2 sp__law_take (dCons (dVar 0) (dCons (dOp dAdd (dOp dSub (dVar 5) (dVar 4)) (dC (.int 1))) (dNil))))))) (dVar 7))) (dNext)) (dSeq (dIfS (dTest (dOp dEq (dVar 3) (dC (.str [111, 112, 101, 110])))) (dRet (dOp dAdd (dOp dAdd (dVar 6) (dC (.str [42]))) (dVar 7))) (dNext)) (dSeq (dAsg (dCall 2 sp__law_text (dCons (dVar 0) (dCons (dC (.int 3)) (dNil)))) (dName 2)) (dRet (dOp dAdd (dOp dAdd (dOp dAdd (dOp dAdd (dVar 6) (dVar 2)) (dVar 2)) (dSl (dVar 2) (dNoPart) (dPart (dCall 2 sp__law_take (dCons (dVar 0) (dCons (dC (.int 3)) (dNil))))))) (dVar 7)))))))
theorem st__law_any_reading (a0 a1 : D) : startD N__law_any_reading [a0, a1] = [some a0, some a1, none, none, none, none, none, none] := rfl
theorem ok__law_any_reading (ds : List D) (h : DHp) (Q : DK) (E : DX) (hn : ds.length = 2) (q : sp__law_any_reading ds h Q E) : m__law_any_reading (endsD Q E) (startD N__law_any_reading ds) h := by
  have hs := sizeLine_eq
  match ds, q with
  | [.ref p, .tup [.str k, .int a, .int b]], ⟨P, a0, ab, b3, q⟩ =>
    simp only [m__law_any_reading, st__law_any_reading, forall_const, true_implies, false_implies, implies_true, and_true, true_and, reduceCtorEq, Bool.not_true, Bool.not_false, Bool.true_xor, Bool.false_xor, Option.some.injEq, exists_eq_left', put_same, onB_bl, dSeq, dNext, dBreak, dDrop, dRet, dRetN, dIfS, dName, dgNil, dgCons, dgTup, dAsg, dPar, dPar3, dSetI, dgSub, dRaise, dVar, dC, dOp, dTest, dAnd, dOr, dNot, dAndV, dOrV, dNotV, dIf, dNil, dCons, dTup, dLst, dCall, dCB, dMt, dMt0, dInC, dIxC, dChain, dNeg, dNoPart, dPart, dSl, exE, dIsA, dCat, catchD, subE, Ex.ix, endsD, dLc, dISeq, dIRng1, dIRng2, dIEnum, dFor, dDcT, dDcK, dCallV, mStarts_str, List.getElem?_cons_zero, List.getElem?_cons_succ, List.set_cons_zero, List.set_cons_succ, onL_lst, isA_non, isA_int_int, isA_bool_int, isA_str_int, isA_tup_int, isA_lst_int, isA_int_str, isA_bool_str, isA_str_str, isA_tup_str, isA_lst_str, isA_int_tup, isA_bool_tup, isA_str_tup, isA_tup_tup, isA_lst_tup, isA_int_bl, isA_bool_bl, isA_str_bl, isA_tup_bl, isA_lst_bl, dAdd_int, dAdd_str, dAdd_tup, dAdd_ref, dSub_int, dLt_int, dLe_int, dGt_int, dGe_int, dMul_int, dMul_str, dMul_ref, dMod_int, dFdiv_int, dPow_int, dIsN_, dNotN_, isNon_int, isNon_non, dEq_str, dEq_int, dNe_str, dNe_int, dIn_sign, dIx_str, dIx_tup, dIx_scr, dIx_ref, dCut_str, dCut_tup, dCut_scr, dCut_ref, bLen_str, bLen_tup, bLen_ref, bInt_int, bInt_bl, bTup_tup, bTup_ref, bList_str, bList_tup, bList_ref, tyD_str, mAppend_ref, mExtend_ref, tyL, dSetL_ref, mJoin_ref, bMin_ref, bMax_ref, atI_0, atI_1, atI_2]
    refine ⟨rfl, rfl, pen_le P (by omega), by omega, by omega, fun one g l1 s1 M => ?_⟩
    have M1 := moved_mv P M
    refine ⟨rfl, pen_le (mv_pen P M1) (by omega), by omega, by omega, fun other g l2 s2 M => ?_⟩
    have M2 := mv_moved M1 M
    simp only [forall_const, true_implies, false_implies, implies_true, and_true, true_and, reduceCtorEq, Bool.not_true, Bool.not_false, Bool.true_xor, Bool.false_xor, Option.some.injEq, exists_eq_left', put_same, onB_bl, dSeq, dNext, dBreak, dDrop, dRet, dRetN, dIfS, dName, dgNil, dgCons, dgTup, dAsg, dPar, dPar3, dSetI, dgSub, dRaise, dVar, dC, dOp, dTest, dAnd, dOr, dNot, dAndV, dOrV, dNotV, dIf, dNil, dCons, dTup, dLst, dCall, dCB, dMt, dMt0, dInC, dIxC, dChain, dNeg, dNoPart, dPart, dSl, exE, dIsA, dCat, catchD, subE, Ex.ix, endsD, dLc, dISeq, dIRng1, dIRng2, dIEnum, dFor, dDcT, dDcK, dCallV, mStarts_str, List.getElem?_cons_zero, List.getElem?_cons_succ, List.set_cons_zero, List.set_cons_succ, onL_lst, isA_non, isA_int_int, isA_bool_int, isA_str_int, isA_tup_int, isA_lst_int, isA_int_str, isA_bool_str, isA_str_str, isA_tup_str, isA_lst_str, isA_int_tup, isA_bool_tup, isA_str_tup, isA_tup_tup, isA_lst_tup, isA_int_bl, isA_bool_bl, isA_str_bl, isA_tup_bl, isA_lst_bl, dAdd_int, dAdd_str, dAdd_tup, dAdd_ref, dSub_int, dLt_int, dLe_int, dGt_int, dGe_int, dMul_int, dMul_str, dMul_ref, dMod_int, dFdiv_int, dPow_int, dIsN_, dNotN_, isNon_int, isNon_non, dEq_str, dEq_int, dNe_str, dNe_int, dIn_sign, dIx_str, dIx_tup, dIx_scr, dIx_ref, dCut_str, dCut_tup, dCut_scr, dCut_ref, bLen_str, bLen_tup, bLen_ref, bInt_int, bInt_bl, bTup_tup, bTup_ref, bList_str, bList_tup, bList_ref, tyD_str, mAppend_ref, mExtend_ref, tyL, dSetL_ref, mJoin_ref, bMin_ref, bMax_ref, atI_0, atI_1, atI_2]
    refine ⟨fun hk => ?_, fun hk => ⟨fun hk2 => ?_, fun hk2 => ?_⟩⟩
    · have ek : k = kF := by simpa using hk
      subst ek
      refine take_mv P M2 (by omega) (by omega) (by omega) fun n g n0 n1 M => ?_
      obtain ⟨nn, rfl⟩ := Int.eq_ofNat_of_zero_le n0
      obtain ⟨an, rfl⟩ := Int.eq_ofNat_of_zero_le a0
      simp only [forall_const, true_implies, false_implies, implies_true, and_true, true_and, reduceCtorEq, Bool.not_true, Bool.not_false, Bool.true_xor, Bool.false_xor, Option.some.injEq, exists_eq_left', put_same, onB_bl, dSeq, dNext, dBreak, dDrop, dRet, dRetN, dIfS, dName, dgNil, dgCons, dgTup, dAsg, dPar, dPar3, dSetI, dgSub, dRaise, dVar, dC, dOp, dTest, dAnd, dOr, dNot, dAndV, dOrV, dNotV, dIf, dNil, dCons, dTup, dLst, dCall, dCB, dMt, dMt0, dInC, dIxC, dChain, dNeg, dNoPart, dPart, dSl, exE, dIsA, dCat, catchD, subE, Ex.ix, endsD, dLc, dISeq, dIRng1, dIRng2, dIEnum, dFor, dDcT, dDcK, dCallV, mStarts_str, List.getElem?_cons_zero, List.getElem?_cons_succ, List.set_cons_zero, List.set_cons_succ, onL_lst, isA_non, isA_int_int, isA_bool_int, isA_str_int, isA_tup_int, isA_lst_int, isA_int_str, isA_bool_str, isA_str_str, isA_tup_str, isA_lst_str, isA_int_tup, isA_bool_tup, isA_str_tup, isA_tup_tup, isA_lst_tup, isA_int_bl, isA_bool_bl, isA_str_bl, isA_tup_bl, isA_lst_bl, dAdd_int, dAdd_str, dAdd_tup, dAdd_ref, dSub_int, dLt_int, dLe_int, dGt_int, dGe_int, dMul_int, dMul_str, dMul_ref, dMod_int, dFdiv_int, dPow_int, dIsN_, dNotN_, isNon_int, isNon_non, dEq_str, dEq_int, dNe_str, dNe_int, dIn_sign, dIx_str, dIx_tup, dIx_scr, dIx_ref, dCut_str, dCut_tup, dCut_scr, dCut_ref, bLen_str, bLen_tup, bLen_ref, bInt_int, bInt_bl, bTup_tup, bTup_ref, bList_str, bList_tup, bList_ref, tyD_str, mAppend_ref, mExtend_ref, tyL, dSetL_ref, mJoin_ref, bMin_ref, bMax_ref, atI_0, atI_1, atI_2]
      have e : ((an : Int) + (nn : Int)).toNat = an + nn := by omega
      rw [e]
      have hr : repD (an + nn) [63] = List.replicate (an + nn) 63 := repD_one _ _
      rw [hr]
      refine ⟨⟨by omega, by omega, by simp; omega⟩, by simp; omega, by simp; omega, mv_end (mv_le M (by omega)) fun g M => q _ g ⟨by simp; omega, fun _ c hc => ?_, fun z => absurd z (by decide), fun z => absurd rfl z⟩ M⟩
      rcases List.mem_append.mp hc with hc | hc
      · rcases List.mem_append.mp hc with hc | hc
        · exact .inl (s1 c hc)
        · exact .inr (List.mem_replicate.mp hc).2
      · exact .inl (s2 c hc)
    · have nk : k ≠ kF := by simpa using hk
      have ek : k = kO := by simpa using hk2
      subst ek
      refine ⟨by simp; omega, by simp; omega, mv_end (mv_le M2 (by omega)) fun g M => q _ g ⟨by simp; omega, fun z => absurd z nk, fun _ => ⟨fun c hc => ?_, ?_⟩, fun _ z => absurd rfl z⟩ M⟩
      · rcases List.mem_append.mp hc with hc | hc
        · rcases List.mem_append.mp hc with hc | hc
          · exact .inl (s1 c hc)
          · exact .inr (by simpa using hc)
        · exact .inl (s2 c hc)
      · rw [List.count_append, List.count_append, allS_count s1, allS_count s2]
        decide
    · have nk : k ≠ kF := by simpa using hk
      have nk2 : k ≠ kO := by simpa using hk2
      refine ⟨rfl, pen_le (mv_pen P M2) (by omega), by omega, by omega, fun x g l3 s3 M => ?_⟩
      have M3 := mv_moved M2 M
      simp only [forall_const, true_implies, false_implies, implies_true, and_true, true_and, reduceCtorEq, Bool.not_true, Bool.not_false, Bool.true_xor, Bool.false_xor, Option.some.injEq, exists_eq_left', put_same, onB_bl, dSeq, dNext, dBreak, dDrop, dRet, dRetN, dIfS, dName, dgNil, dgCons, dgTup, dAsg, dPar, dPar3, dSetI, dgSub, dRaise, dVar, dC, dOp, dTest, dAnd, dOr, dNot, dAndV, dOrV, dNotV, dIf, dNil, dCons, dTup, dLst, dCall, dCB, dMt, dMt0, dInC, dIxC, dChain, dNeg, dNoPart, dPart, dSl, exE, dIsA, dCat, catchD, subE, Ex.ix, endsD, dLc, dISeq, dIRng1, dIRng2, dIEnum, dFor, dDcT, dDcK, dCallV, mStarts_str, List.getElem?_cons_zero, List.getElem?_cons_succ, List.set_cons_zero, List.set_cons_succ, onL_lst, isA_non, isA_int_int, isA_bool_int, isA_str_int, isA_tup_int, isA_lst_int, isA_int_str, isA_bool_str, isA_str_str, isA_tup_str, isA_lst_str, isA_int_tup, isA_bool_tup, isA_str_tup, isA_tup_tup, isA_lst_tup, isA_int_bl, isA_bool_bl, isA_str_bl, isA_tup_bl, isA_lst_bl, dAdd_int, dAdd_str, dAdd_tup, dAdd_ref, dSub_int, dLt_int, dLe_int, dGt_int, dGe_int, dMul_int, dMul_str, dMul_ref, dMod_int, dFdiv_int, dPow_int, dIsN_, dNotN_, isNon_int, isNon_non, dEq_str, dEq_int, dNe_str, dNe_int, dIn_sign, dIx_str, dIx_tup, dIx_scr, dIx_ref, dCut_str, dCut_tup, dCut_scr, dCut_ref, bLen_str, bLen_tup, bLen_ref, bInt_int, bInt_bl, bTup_tup, bTup_ref, bList_str, bList_tup, bList_ref, tyD_str, mAppend_ref, mExtend_ref, tyL, dSetL_ref, mJoin_ref, bMin_ref, bMax_ref, atI_0, atI_1, atI_2]
      refine ⟨by omega, by simp; omega, take_mv P M3 (by omega) (by omega) (by omega) fun n g n0 n1 M => ?_⟩
      obtain ⟨nn, rfl⟩ := Int.eq_ofNat_of_zero_le n0
      simp only [cut_to]
      refine ⟨by omega, by simp; omega, by simp; omega, mv_end (mv_le M (by omega)) fun g M => q _ g ⟨by simp; omega, fun z => absurd z nk, fun z => absurd z nk2, fun _ _ => ?_⟩ M⟩
      exact allS_app (allS_app (allS_app (allS_app s1 s3) s3) (allS_take s3)) s2
end Tw

namespace Tw
open PySem PySem.Spec PyProof.Rows L2
def okS (x : Tx) : Prop := x.length ≤ 20 ∧ allS x
theorem okS_ok {x : Tx} (h : okS x) : okTx x := okTx_small (allS_made h.2)
theorem okS_text {x : Tx} (h : okS x) : isText (.str x) SMALL = true := isText_small (by have := h.1; omega) (allS_made h.2)
/-- without its one mark, both parts are of small letters -/
theorem like_parts {z : Tx} {n : Nat} (h : ∀ c ∈ z, c ∈ SMALL ∨ c = 42) (h1 : z.count 42 ≤ 1) (e : (z.drop n).take 1 = [42]) : allS (z.take n) ∧ allS (z.drop (n + 1)) := by
  have ez : z = z.take n ++ ([42] ++ z.drop (n + 1)) := by
    rw [← e, ← List.drop_drop, List.take_append_drop, List.take_append_drop]
  have hc : (z.take n).count 42 + (1 + (z.drop (n + 1)).count 42) ≤ 1 := by
    have : z.count 42 = (z.take n ++ ([42] ++ z.drop (n + 1))).count 42 := congrArg (List.count 42) ez
    rw [List.count_append, List.count_append] at this
    have e1 : List.count 42 [42] = 1 := by decide
    omega
  have n1 : (42 : Nat) ∉ z.take n := List.count_eq_zero.mp (by omega)
  have n2 : (42 : Nat) ∉ z.drop (n + 1) := List.count_eq_zero.mp (by omega)
  refine ⟨fun c hc => ?_, fun c hc => ?_⟩
  · rcases h c (List.mem_of_mem_take hc) with q | q
    · exact q
    · subst q; exact absurd hc n1
  · rcases h c (List.mem_of_mem_drop hc) with q | q
    · exact q
    · subst q; exact absurd hc n2
def sp__law_sources : SpD := fun ds h Q _ => match ds with
  | [.ref p, .tup [.str k, .int a, .int b], .str z] => Pen h p 990000 ∧ 0 ≤ a ∧ a ≤ b ∧ b ≤ 3 ∧ likeR k z ∧ ∀ x y g r, okS x → okS y → Moved h p 400 g → g r = none → Q (.ref r) (put g r (.lst [.str x, .str y]))
  | _ => False
/-- _law_sources(pen, rule, reading); slots: pen 0, rule 1, reading 2, found 3, size 4, kind 5, least 6, most 7, at 8, again 9, piece 10, stretch 11, c 12 -/
def N__law_sources : List Str := ["pen", "rule", "reading", "found", "size", "kind", "least", "most", "at", "again", "piece", "stretch", "c"]
def m__law_sources : MS := dSeq (dAsg (dVar 1) (dgTup 3 (dgCons (dName 5) (dgCons (dName 6) (dgCons (dName 7) (dgNil)))))) (dSeq (dAsg (dLst (dNil)) (dName 3)) (dSeq (dFor (dIRng2 (dCons (dVar 6) (dCons (dOp dAdd (dVar 7) (dC (.int 1))) (dNil)))) (dName 4) (dFor (dIRng1 (dCons (dOp dAdd (dCB bLen (dCons (dVar 2) (dNil))) (dC (.int 1))) (dNil))) (dName 8) (dSeq (dAsg (dSl (dVar 2) (dPart (dVar 8)) (dPart (dOp dAdd (dVar 8) (dVar 4)))) (dName 10)) (dSeq (dIfS (dAnd (dTest (dOp dEq (dVar 5) (dC (.str [100, 111, 117, 98, 108, 101, 100])))) (dTest (dOp dLe (dOp dAdd (dVar 8) (dOp dMul (dC (.int 2)) (dVar 4))) (dCB bLen (dCons (dVar 2) (dNil)))))) (dIfS (dTest (dMt "str" mStarts (dSl (dVar 2) (dPart (dOp dAdd (dVar 8) (dVar 4))) (dNoPart)) (dCons (dVar 10) (dNil)))) (dDrop (dMt "list" mAppend (dVar 3) (dCons (dOp dAdd (dSl (dVar 2) (dNoPart) (dPart (dVar 8))) (dSl (dVar 2) (dPart (dOp dAdd (dVar 8) (dVar 4))) (dNoPart))) (dNil)))) (dNext)) (dNext)) (dIfS (dAnd (dTest (dOp dEq (dVar 5) (dC (.str [111, 112, 101, 110])))) (dTest (dOp dEq (dSl (dVar 2) (dPart (dVar 8)) (dPart (dOp dAdd (dVar 8) (dC (.int 1))))) (dC (.str [42]))))) (dSeq (dAsg (dMt "str" mJoin (dC (.str [])) (dCons (dLc (dIRng1 (dCons (dVar 4) (dNil))) (.nm 9) (dYes) (dCall 2 sp__law_one_of (dCons (dVar 0) (dCons (dC (.str [97, 98, 122])) (dNil)))) [9]) (dNil))) (dName 11)) (dDrop (dMt "list" mAppend (dVar 3) (dCons (dOp dAdd (dOp dAdd (dSl (dVar 2) (dNoPart) (dPart (dVar 8))) (dVar 11)) (dSl (dVar 2) (dPart (dOp dAdd (dVar 8) (dC (.int 1)))) (dNoPart))) (dNil))))) (dNext)))))) (dSeq (dIfS (dTest (dOp dEq (dVar 5) (dC (.str [102, 97, 100, 101, 100])))) (dFor (dIRng1 (dCons (dC (.int 4)) (dNil))) (dName 9) (dDrop (dMt "list" mAppend (dVar 3) (dCons (dMt "str" mJoin (dC (.str [])) (dCons (dLc (dISeq (dVar 2)) (.nm 12) (dYes) (dIf (dTest (dOp dEq (dVar 12) (dC (.str [63])))) (dCall 2 sp__law_one_of (dCons (dVar 0) (dCons (dC (.str [97, 98, 122])) (dNil)))) (dVar 12)) [12]) (dNil))) (dNil))))) (dNext)) (dRet (dIf (dTest (dOp dNe (dVar 3) (dLst (dNil)))) (dLst (dCons (dCall 2 sp__law_one_of (dCons (dVar 0) (dCons (dVar 3) (dNil)))) (dCons (dCall 2 sp__law_one_of (dCons (dVar 0) (dCons (dVar 3) (dNil)))) (dNil)))) (dLst (dCons (dC (.str [])) (dCons (dC (.str [])) (dNil)))))))))
theorem st__law_sources (a0 a1 a2 : D) : startD N__law_sources [a0, a1, a2] = [some a0, some a1, some a2, none, none, none, none, none, none, none, none, none, none] := rfl
def srcEnd : MS := dRet (dIf (dTest (dOp dNe (dVar 3) (dLst dNil))) (dLst (dCons (dCall 2 sp__law_one_of (dCons (dVar 0) (dCons (dVar 3) dNil))) (dCons (dCall 2 sp__law_one_of (dCons (dVar 0) (dCons (dVar 3) dNil))) dNil))) (dLst (dCons (dC (.str [])) (dCons (dC (.str [])) dNil))))
theorem srcEnd_ok {h g : DHp} {p u : Addr} {Q : DK} {D' : DEnds} {ws : List Tx} {s1 s2 : Option D} {sl : List (Option D)} (hD : D'.rt = Fgt Q) (P : Pen h p 990000) (up : u ≠ p) (nu : h u = none) (M : Mv h p 390 g) (hu : g u = some (.lst (ws.map D.str))) (hw : ∀ w ∈ ws, okS w) (hl : ws.length ≤ 90)
    (q : ∀ x y g r, okS x → okS y → Moved h p 400 g → g r = none → Q (.ref r) (put g r (.lst [.str x, .str y]))) : srcEnd D' (some (.ref p) :: s1 :: s2 :: some (.ref u) :: sl) g := by
  have hs := sizeLine_eq
  simp only [srcEnd, forall_const, true_implies, false_implies, implies_true, and_true, true_and, reduceCtorEq, Bool.not_true, Bool.not_false, Bool.true_xor, Bool.false_xor, Option.some.injEq, exists_eq_left', put_same, onB_bl, dSeq, dNext, dBreak, dDrop, dRet, dRetN, dIfS, dName, dgNil, dgCons, dgTup, dAsg, dPar, dPar3, dSetI, dgSub, dRaise, dVar, dC, dOp, dTest, dAnd, dOr, dNot, dAndV, dOrV, dNotV, dIf, dNil, dCons, dTup, dLst, dCall, dCB, dMt, dMt0, dInC, dIxC, dChain, dNeg, dNoPart, dPart, dSl, exE, dIsA, dCat, catchD, subE, Ex.ix, endsD, dLc, dISeq, dIRng1, dIRng2, dIEnum, dFor, dDcT, dDcK, dCallV, mStarts_str, List.getElem?_cons_zero, List.getElem?_cons_succ, List.set_cons_zero, List.set_cons_succ, onL_lst, isA_non, isA_int_int, isA_bool_int, isA_str_int, isA_tup_int, isA_lst_int, isA_int_str, isA_bool_str, isA_str_str, isA_tup_str, isA_lst_str, isA_int_tup, isA_bool_tup, isA_str_tup, isA_tup_tup, isA_lst_tup, isA_int_bl, isA_bool_bl, isA_str_bl, isA_tup_bl, isA_lst_bl, dAdd_int, dAdd_str, dAdd_tup, dAdd_ref, dSub_int, dLt_int, dLe_int, dGt_int, dGe_int, dMul_int, dMul_str, dMul_ref, dMod_int, dFdiv_int, dPow_int, dIsN_, dNotN_, isNon_int, isNon_non, dEq_str, dEq_int, dNe_str, dNe_int, dIn_sign, dIx_str, dIx_tup, dIx_scr, dIx_ref, dCut_str, dCut_tup, dCut_scr, dCut_ref, bLen_str, bLen_tup, bLen_ref, bInt_int, bInt_bl, bTup_tup, bTup_ref, bList_str, bList_tup, bList_ref, tyD_str, mAppend_ref, mExtend_ref, tyL, dSetL_ref, mJoin_ref, bMin_ref, bMax_ref, atI_0, atI_1, atI_2, hD]
  refine ⟨by show (0 : Nat) ≤ sizeLine; omega, fun p1 n1 => ?_⟩
  have hu1 := put_old (o := .lst []) hu n1
  have M1 := mv_new (o := .lst []) M n1
  refine dNe_strs (vs := []) hu1 put_same (fun w hw' => okS_ok (hw w hw')) (by simp) ?_
  generalize put g p1 (.lst []) = g1 at hu1 M1
  simp only [onB_]
  have one : ∀ d ∈ ws.map D.str, ∃ x, d = .str x ∧ okS x := fun d hd => by
    obtain ⟨x, hx, rfl⟩ := List.mem_map.mp hd
    exact ⟨x, rfl, hw x hx⟩
  refine ⟨fun hb => ?_, fun hb => ⟨by show (2 : Nat) ≤ sizeLine; omega, fun r nr => mv_end_new (mv_le M1 (by omega)) nr fun g' M' n' => q [] [] g' r ⟨by simp, by simp [allS]⟩ ⟨by simp, by simp [allS]⟩ M' n'⟩⟩
  have nw : ws ≠ [] := by simpa using hb
  have nw' : ws.map D.str ≠ [] := by simpa using nw
  refine ⟨rfl, up, _, hu1, pen_le (mv_pen P M1) (by omega), nw', by rw [List.length_map]; omega, fun d1 g2 h1 M2 => ?_⟩
  obtain ⟨x, rfl, ox⟩ := one d1 h1
  have M2' := mv_moved M1 M2
  refine ⟨rfl, up, _, moved_old M2 hu1 up, pen_le (mv_pen P M2') (by omega), nw', by rw [List.length_map]; omega, fun d2 g3 h2 M3 => ?_⟩
  obtain ⟨y, rfl, oy⟩ := one d2 h2
  have M3' := mv_moved M2' M3
  exact ⟨by show (2 : Nat) ≤ sizeLine; omega, fun r nr => mv_end_new (mv_le M3' (by omega)) nr fun g' M' n' => q x y g' r ox oy M' n'⟩
theorem ok__law_sources (ds : List D) (h : DHp) (Q : DK) (E : DX) (hn : ds.length = 3) (q : sp__law_sources ds h Q E) : m__law_sources (endsD Q E) (startD N__law_sources ds) h := by
  have hs := sizeLine_eq
  match ds, q with
  | [.ref p, .tup [.str k, .int a, .int b], .str z], ⟨P, a0, ab, b3, ⟨lz, lF, lO, lS⟩, q⟩ =>
    simp only [m__law_sources, st__law_sources, forall_const, true_implies, false_implies, implies_true, and_true, true_and, reduceCtorEq, Bool.not_true, Bool.not_false, Bool.true_xor, Bool.false_xor, Option.some.injEq, exists_eq_left', put_same, onB_bl, dSeq, dNext, dBreak, dDrop, dRet, dRetN, dIfS, dName, dgNil, dgCons, dgTup, dAsg, dPar, dPar3, dSetI, dgSub, dRaise, dVar, dC, dOp, dTest, dAnd, dOr, dNot, dAndV, dOrV, dNotV, dIf, dNil, dCons, dTup, dLst, dCall, dCB, dMt, dMt0, dInC, dIxC, dChain, dNeg, dNoPart, dPart, dSl, exE, dIsA, dCat, catchD, subE, Ex.ix, endsD, dLc, dISeq, dIRng1, dIRng2, dIEnum, dFor, dDcT, dDcK, dCallV, mStarts_str, List.getElem?_cons_zero, List.getElem?_cons_succ, List.set_cons_zero, List.set_cons_succ, onL_lst, isA_non, isA_int_int, isA_bool_int, isA_str_int, isA_tup_int, isA_lst_int, isA_int_str, isA_bool_str, isA_str_str, isA_tup_str, isA_lst_str, isA_int_tup, isA_bool_tup, isA_str_tup, isA_tup_tup, isA_lst_tup, isA_int_bl, isA_bool_bl, isA_str_bl, isA_tup_bl, isA_lst_bl, dAdd_int, dAdd_str, dAdd_tup, dAdd_ref, dSub_int, dLt_int, dLe_int, dGt_int, dGe_int, dMul_int, dMul_str, dMul_ref, dMod_int, dFdiv_int, dPow_int, dIsN_, dNotN_, isNon_int, isNon_non, dEq_str, dEq_int, dNe_str, dNe_int, dIn_sign, dIx_str, dIx_tup, dIx_scr, dIx_ref, dCut_str, dCut_tup, dCut_scr, dCut_ref, bLen_str, bLen_tup, bLen_ref, bInt_int, bInt_bl, bTup_tup, bTup_ref, bList_str, bList_tup, bList_ref, tyD_str, mAppend_ref, mExtend_ref, tyL, dSetL_ref, mJoin_ref, bMin_ref, bMax_ref, atI_0, atI_1, atI_2]
    refine ⟨rfl, by show (0 : Nat) ≤ sizeLine; omega, fun u nu => ⟨by omega, ?_⟩⟩
    have up : u ≠ p := fun z => pen_new P nu z.symm
    -- what holds all the way
    refine forB_inv (fun i δ h' => i ≤ 4 ∧ (∃ s4 s8 s9 s10 s11 s12, δ = [some (.ref p), some (.tup [.str k, .int a, .int b]), some (.str z), some (.ref u), s4, some (.str k), some (.int a), some (.int b), s8, s9, s10, s11, s12]) ∧ Mv h p (60 * i) h' ∧ ∃ ws : List Tx, h' u = some (.lst (ws.map D.str)) ∧ (∀ w ∈ ws, okS w) ∧ ws.length ≤ 20 * i)
      ⟨by omega, ⟨_, _, _, _, _, _, rfl⟩, mv_le (mv_new (mv_refl P) nu) (by omega), [], put_same, by simp, by simp⟩ (fun _ _ _ _ => True.intro) ?_ ?_
    rotate_left
    · rintro i d δ h' hd ⟨hi, ⟨s4, s8, s9, s10, s11, s12, rfl⟩, M, ws, hu, hw, hl⟩
      obtain ⟨hin, rfl⟩ := rngD_get hd
      simp only [forall_const, true_implies, false_implies, implies_true, and_true, true_and, reduceCtorEq, Bool.not_true, Bool.not_false, Bool.true_xor, Bool.false_xor, Option.some.injEq, exists_eq_left', put_same, onB_bl, dSeq, dNext, dBreak, dDrop, dRet, dRetN, dIfS, dName, dgNil, dgCons, dgTup, dAsg, dPar, dPar3, dSetI, dgSub, dRaise, dVar, dC, dOp, dTest, dAnd, dOr, dNot, dAndV, dOrV, dNotV, dIf, dNil, dCons, dTup, dLst, dCall, dCB, dMt, dMt0, dInC, dIxC, dChain, dNeg, dNoPart, dPart, dSl, exE, dIsA, dCat, catchD, subE, Ex.ix, endsD, dLc, dISeq, dIRng1, dIRng2, dIEnum, dFor, dDcT, dDcK, dCallV, mStarts_str, List.getElem?_cons_zero, List.getElem?_cons_succ, List.set_cons_zero, List.set_cons_succ, onL_lst, isA_non, isA_int_int, isA_bool_int, isA_str_int, isA_tup_int, isA_lst_int, isA_int_str, isA_bool_str, isA_str_str, isA_tup_str, isA_lst_str, isA_int_tup, isA_bool_tup, isA_str_tup, isA_tup_tup, isA_lst_tup, isA_int_bl, isA_bool_bl, isA_str_bl, isA_tup_bl, isA_lst_bl, dAdd_int, dAdd_str, dAdd_tup, dAdd_ref, dSub_int, dLt_int, dLe_int, dGt_int, dGe_int, dMul_int, dMul_str, dMul_ref, dMod_int, dFdiv_int, dPow_int, dIsN_, dNotN_, isNon_int, isNon_non, dEq_str, dEq_int, dNe_str, dNe_int, dIn_sign, dIx_str, dIx_tup, dIx_scr, dIx_ref, dCut_str, dCut_tup, dCut_scr, dCut_ref, bLen_str, bLen_tup, bLen_ref, bInt_int, bInt_bl, bTup_tup, bTup_ref, bList_str, bList_tup, bList_ref, tyD_str, mAppend_ref, mExtend_ref, tyL, dSetL_ref, mJoin_ref, bMin_ref, bMax_ref, atI_0, atI_1, atI_2]
      refine ⟨by omega, by omega, ?_⟩
      obtain ⟨an, rfl⟩ := Int.eq_ofNat_of_zero_le a0
      have hsz : an + i ≤ 3 := by omega
      have eD : ((an : Int) + (i : Int)) = ((an + i : Nat) : Int) := by omega
      rw [eD]
      generalize an + i = sz at hsz
      refine forB_inv (fun j δ h' => j ≤ 17 ∧ (∃ s8 s9 s10 s11 s12, δ = [some (.ref p), some (.tup [.str k, .int an, .int b]), some (.str z), some (.ref u), some (.int (sz : Nat)), some (.str k), some (.int an), some (.int b), s8, s9, s10, s11, s12]) ∧ Mv h p (60 * i + 3 * j) h' ∧ ∃ ws : List Tx, h' u = some (.lst (ws.map D.str)) ∧ (∀ w ∈ ws, okS w) ∧ ws.length ≤ 20 * i + j)
        ⟨by omega, ⟨_, _, _, _, _, rfl⟩, mv_le M (by omega), ws, hu, hw, by omega⟩ (fun _ _ _ _ => True.intro) ?_ ?_
      rotate_left
      · rintro j d δ h' hd ⟨hj, ⟨s8, s9, s10, s11, s12, rfl⟩, M, ws, hu, hw, hl⟩
        obtain ⟨hjn, rfl⟩ := rngD_get hd
        have hjz : j ≤ z.length := by omega
        simp only [forall_const, true_implies, false_implies, implies_true, and_true, true_and, reduceCtorEq, Bool.not_true, Bool.not_false, Bool.true_xor, Bool.false_xor, Option.some.injEq, exists_eq_left', put_same, onB_bl, dSeq, dNext, dBreak, dDrop, dRet, dRetN, dIfS, dName, dgNil, dgCons, dgTup, dAsg, dPar, dPar3, dSetI, dgSub, dRaise, dVar, dC, dOp, dTest, dAnd, dOr, dNot, dAndV, dOrV, dNotV, dIf, dNil, dCons, dTup, dLst, dCall, dCB, dMt, dMt0, dInC, dIxC, dChain, dNeg, dNoPart, dPart, dSl, exE, dIsA, dCat, catchD, subE, Ex.ix, endsD, dLc, dISeq, dIRng1, dIRng2, dIEnum, dFor, dDcT, dDcK, dCallV, mStarts_str, List.getElem?_cons_zero, List.getElem?_cons_succ, List.set_cons_zero, List.set_cons_succ, onL_lst, isA_non, isA_int_int, isA_bool_int, isA_str_int, isA_tup_int, isA_lst_int, isA_int_str, isA_bool_str, isA_str_str, isA_tup_str, isA_lst_str, isA_int_tup, isA_bool_tup, isA_str_tup, isA_tup_tup, isA_lst_tup, isA_int_bl, isA_bool_bl, isA_str_bl, isA_tup_bl, isA_lst_bl, dAdd_int, dAdd_str, dAdd_tup, dAdd_ref, dSub_int, dLt_int, dLe_int, dGt_int, dGe_int, dMul_int, dMul_str, dMul_ref, dMod_int, dFdiv_int, dPow_int, dIsN_, dNotN_, isNon_int, isNon_non, dEq_str, dEq_int, dNe_str, dNe_int, dIn_sign, dIx_str, dIx_tup, dIx_scr, dIx_ref, dCut_str, dCut_tup, dCut_scr, dCut_ref, bLen_str, bLen_tup, bLen_ref, bInt_int, bInt_bl, bTup_tup, bTup_ref, bList_str, bList_tup, bList_ref, tyD_str, mAppend_ref, mExtend_ref, tyL, dSetL_ref, mJoin_ref, bMin_ref, bMax_ref, atI_0, atI_1, atI_2]
        have e0 : (0 : Int) + (j : Int) = (j : Int) := by omega
        have e1 : (0 : Int) + (j : Int) + (sz : Int) = ((j + sz : Nat) : Int) := by omega
        have e2 : cutD z (some ((0 : Int) + (j : Int))) (some ((0 : Int) + (j : Int) + (sz : Int))) = (z.drop j).take sz := by rw [e0]; exact cut_seg z j sz
        have e3 : cutD z (some ((0 : Int) + (j : Int) + (sz : Int))) none = z.drop (j + sz) := by rw [e1]; exact cut_from z _
        have e4 : cutD z none (some ((0 : Int) + (j : Int))) = z.take j := by rw [e0]; exact cut_to z j
        have e5 : cutD z (some ((0 : Int) + (j : Int))) (some ((0 : Int) + (j : Int) + 1)) = (z.drop j).take 1 := by rw [e0]; exact cut_seg z j 1
        have e6 : cutD z (some ((0 : Int) + (j : Int) + 1)) none = z.drop (j + 1) := by rw [show (0 : Int) + (j : Int) + 1 = ((j + 1 : Nat) : Int) by omega]; exact cut_from z _
        simp only [e2, e3, e4, e5, e6]
        refine ⟨by omega, ?_⟩
        by_cases hD : k = kD
        · subst hD
          simp only [show (kD == kD) = true from rfl, show (kD == kO) = false from rfl, forall_const, true_implies, false_implies, implies_true, and_true, true_and, reduceCtorEq, Bool.not_true, Bool.not_false, Bool.true_xor, Bool.false_xor, Option.some.injEq, exists_eq_left', put_same, onB_bl, dSeq, dNext, dBreak, dDrop, dRet, dRetN, dIfS, dName, dgNil, dgCons, dgTup, dAsg, dPar, dPar3, dSetI, dgSub, dRaise, dVar, dC, dOp, dTest, dAnd, dOr, dNot, dAndV, dOrV, dNotV, dIf, dNil, dCons, dTup, dLst, dCall, dCB, dMt, dMt0, dInC, dIxC, dChain, dNeg, dNoPart, dPart, dSl, exE, dIsA, dCat, catchD, subE, Ex.ix, endsD, dLc, dISeq, dIRng1, dIRng2, dIEnum, dFor, dDcT, dDcK, dCallV, mStarts_str, List.getElem?_cons_zero, List.getElem?_cons_succ, List.set_cons_zero, List.set_cons_succ, onL_lst, isA_non, isA_int_int, isA_bool_int, isA_str_int, isA_tup_int, isA_lst_int, isA_int_str, isA_bool_str, isA_str_str, isA_tup_str, isA_lst_str, isA_int_tup, isA_bool_tup, isA_str_tup, isA_tup_tup, isA_lst_tup, isA_int_bl, isA_bool_bl, isA_str_bl, isA_tup_bl, isA_lst_bl, dAdd_int, dAdd_str, dAdd_tup, dAdd_ref, dSub_int, dLt_int, dLe_int, dGt_int, dGe_int, dMul_int, dMul_str, dMul_ref, dMod_int, dFdiv_int, dPow_int, dIsN_, dNotN_, isNon_int, isNon_non, dEq_str, dEq_int, dNe_str, dNe_int, dIn_sign, dIx_str, dIx_tup, dIx_scr, dIx_ref, dCut_str, dCut_tup, dCut_scr, dCut_ref, bLen_str, bLen_tup, bLen_ref, bInt_int, bInt_bl, bTup_tup, bTup_ref, bList_str, bList_tup, bList_ref, tyD_str, mAppend_ref, mExtend_ref, tyL, dSetL_ref, mJoin_ref, bMin_ref, bMax_ref, atI_0, atI_1, atI_2]
          have zS : allS z := lS (by decide) (by decide)
          refine ⟨.inr ⟨by omega, by omega⟩, by omega, fun _ => ⟨by omega, fun _ => ?_, fun _ => ⟨by omega, ⟨_, _, _, _, _, rfl⟩, mv_le M (by omega), ws, hu, hw, by omega⟩⟩, fun _ => ⟨by omega, ⟨_, _, _, _, _, rfl⟩, mv_le M (by omega), ws, hu, hw, by omega⟩⟩
          simp only [hu, onL_lst]
          refine ⟨True.intro, by omega, by omega, by rw [List.length_take, List.length_drop]; omega, by rw [List.length_map]; omega, by omega, ⟨_, _, _, _, _, rfl⟩, mv_le (mv_upd M nu) (by omega), ws ++ [z.take j ++ z.drop (j + sz)], by rw [List.map_append]; rfl, fun w hw' => ?_, by rw [List.length_append, List.length_singleton]; omega⟩
          rcases List.mem_append.mp hw' with hw' | hw'
          · exact hw w hw'
          · rw [List.mem_singleton] at hw'
            subst hw'
            exact ⟨by rw [List.length_append, List.length_take, List.length_drop]; omega, allS_app (allS_take zS) (allS_drop zS)⟩
        · have hD' : (k == kD) = false := by simpa using hD
          simp only [hD', forall_const, true_implies, false_implies, implies_true, and_true, true_and, reduceCtorEq, Bool.not_true, Bool.not_false, Bool.true_xor, Bool.false_xor, Option.some.injEq, exists_eq_left', put_same, onB_bl, dSeq, dNext, dBreak, dDrop, dRet, dRetN, dIfS, dName, dgNil, dgCons, dgTup, dAsg, dPar, dPar3, dSetI, dgSub, dRaise, dVar, dC, dOp, dTest, dAnd, dOr, dNot, dAndV, dOrV, dNotV, dIf, dNil, dCons, dTup, dLst, dCall, dCB, dMt, dMt0, dInC, dIxC, dChain, dNeg, dNoPart, dPart, dSl, exE, dIsA, dCat, catchD, subE, Ex.ix, endsD, dLc, dISeq, dIRng1, dIRng2, dIEnum, dFor, dDcT, dDcK, dCallV, mStarts_str, List.getElem?_cons_zero, List.getElem?_cons_succ, List.set_cons_zero, List.set_cons_succ, onL_lst, isA_non, isA_int_int, isA_bool_int, isA_str_int, isA_tup_int, isA_lst_int, isA_int_str, isA_bool_str, isA_str_str, isA_tup_str, isA_lst_str, isA_int_tup, isA_bool_tup, isA_str_tup, isA_tup_tup, isA_lst_tup, isA_int_bl, isA_bool_bl, isA_str_bl, isA_tup_bl, isA_lst_bl, dAdd_int, dAdd_str, dAdd_tup, dAdd_ref, dSub_int, dLt_int, dLe_int, dGt_int, dGe_int, dMul_int, dMul_str, dMul_ref, dMod_int, dFdiv_int, dPow_int, dIsN_, dNotN_, isNon_int, isNon_non, dEq_str, dEq_int, dNe_str, dNe_int, dIn_sign, dIx_str, dIx_tup, dIx_scr, dIx_ref, dCut_str, dCut_tup, dCut_scr, dCut_ref, bLen_str, bLen_tup, bLen_ref, bInt_int, bInt_bl, bTup_tup, bTup_ref, bList_str, bList_tup, bList_ref, tyD_str, mAppend_ref, mExtend_ref, tyL, dSetL_ref, mJoin_ref, bMin_ref, bMax_ref, atI_0, atI_1, atI_2]
          by_cases hO : k = kO
          · subst hO
            simp only [show (kO == kO) = true from rfl, forall_const, true_implies, false_implies, implies_true, and_true, true_and, reduceCtorEq, Bool.not_true, Bool.not_false, Bool.true_xor, Bool.false_xor, Option.some.injEq, exists_eq_left', put_same, onB_bl, dSeq, dNext, dBreak, dDrop, dRet, dRetN, dIfS, dName, dgNil, dgCons, dgTup, dAsg, dPar, dPar3, dSetI, dgSub, dRaise, dVar, dC, dOp, dTest, dAnd, dOr, dNot, dAndV, dOrV, dNotV, dIf, dNil, dCons, dTup, dLst, dCall, dCB, dMt, dMt0, dInC, dIxC, dChain, dNeg, dNoPart, dPart, dSl, exE, dIsA, dCat, catchD, subE, Ex.ix, endsD, dLc, dISeq, dIRng1, dIRng2, dIEnum, dFor, dDcT, dDcK, dCallV, mStarts_str, List.getElem?_cons_zero, List.getElem?_cons_succ, List.set_cons_zero, List.set_cons_succ, onL_lst, isA_non, isA_int_int, isA_bool_int, isA_str_int, isA_tup_int, isA_lst_int, isA_int_str, isA_bool_str, isA_str_str, isA_tup_str, isA_lst_str, isA_int_tup, isA_bool_tup, isA_str_tup, isA_tup_tup, isA_lst_tup, isA_int_bl, isA_bool_bl, isA_str_bl, isA_tup_bl, isA_lst_bl, dAdd_int, dAdd_str, dAdd_tup, dAdd_ref, dSub_int, dLt_int, dLe_int, dGt_int, dGe_int, dMul_int, dMul_str, dMul_ref, dMod_int, dFdiv_int, dPow_int, dIsN_, dNotN_, isNon_int, isNon_non, dEq_str, dEq_int, dNe_str, dNe_int, dIn_sign, dIx_str, dIx_tup, dIx_scr, dIx_ref, dCut_str, dCut_tup, dCut_scr, dCut_ref, bLen_str, bLen_tup, bLen_ref, bInt_int, bInt_bl, bTup_tup, bTup_ref, bList_str, bList_tup, bList_ref, tyD_str, mAppend_ref, mExtend_ref, tyL, dSetL_ref, mJoin_ref, bMin_ref, bMax_ref, atI_0, atI_1, atI_2]
            obtain ⟨zl, zc⟩ := lO rfl
            refine ⟨by omega, fun hm => ⟨by omega, ?_⟩, fun _ => ⟨by omega, ⟨_, _, _, _, _, rfl⟩, mv_le M (by omega), ws, hu, hw, by omega⟩⟩
            obtain ⟨z1, z2⟩ := like_parts zl zc (by simpa using hm)
            refine ⟨fun t acc g => t ≤ sz ∧ Mv h p (60 * i + 3 * j + t) g ∧ g u = some (.lst (ws.map D.str)) ∧ ∃ cs : Tx, cs.length = t ∧ acc = cs.map (fun c => .str [c]) ∧ allS cs, ⟨Nat.zero_le _, mv_le M (by omega), hu, [], rfl, rfl, by simp [allS]⟩, ?_⟩
            rintro t acc g ⟨ht, M, hu, cs, hl2, rfl, hc⟩
            refine ⟨True.intro, fun e r nr => ?_, fun d hd => ?_⟩
            · rw [rngD_len] at e
              have M1 := mv_new (o := .lst (cs.map fun c => .str [c])) M nr
              have hu1 := put_old (o := .lst (cs.map fun c => .str [c])) hu nr
              refine ⟨cs.map fun c => [c], by simp [itemsD, put_same], by rw [sum_signs]; simp; omega, ?_⟩
              rw [signs_join]
              simp only [forall_const, true_implies, false_implies, implies_true, and_true, true_and, reduceCtorEq, Bool.not_true, Bool.not_false, Bool.true_xor, Bool.false_xor, Option.some.injEq, exists_eq_left', put_same, onB_bl, dSeq, dNext, dBreak, dDrop, dRet, dRetN, dIfS, dName, dgNil, dgCons, dgTup, dAsg, dPar, dPar3, dSetI, dgSub, dRaise, dVar, dC, dOp, dTest, dAnd, dOr, dNot, dAndV, dOrV, dNotV, dIf, dNil, dCons, dTup, dLst, dCall, dCB, dMt, dMt0, dInC, dIxC, dChain, dNeg, dNoPart, dPart, dSl, exE, dIsA, dCat, catchD, subE, Ex.ix, endsD, dLc, dISeq, dIRng1, dIRng2, dIEnum, dFor, dDcT, dDcK, dCallV, mStarts_str, List.getElem?_cons_zero, List.getElem?_cons_succ, List.set_cons_zero, List.set_cons_succ, onL_lst, isA_non, isA_int_int, isA_bool_int, isA_str_int, isA_tup_int, isA_lst_int, isA_int_str, isA_bool_str, isA_str_str, isA_tup_str, isA_lst_str, isA_int_tup, isA_bool_tup, isA_str_tup, isA_tup_tup, isA_lst_tup, isA_int_bl, isA_bool_bl, isA_str_bl, isA_tup_bl, isA_lst_bl, dAdd_int, dAdd_str, dAdd_tup, dAdd_ref, dSub_int, dLt_int, dLe_int, dGt_int, dGe_int, dMul_int, dMul_str, dMul_ref, dMod_int, dFdiv_int, dPow_int, dIsN_, dNotN_, isNon_int, isNon_non, dEq_str, dEq_int, dNe_str, dNe_int, dIn_sign, dIx_str, dIx_tup, dIx_scr, dIx_ref, dCut_str, dCut_tup, dCut_scr, dCut_ref, bLen_str, bLen_tup, bLen_ref, bInt_int, bInt_bl, bTup_tup, bTup_ref, bList_str, bList_tup, bList_ref, tyD_str, mAppend_ref, mExtend_ref, tyL, dSetL_ref, mJoin_ref, bMin_ref, bMax_ref, atI_0, atI_1, atI_2, hu1]
              refine ⟨by omega, by rw [List.length_take]; omega, by omega, by rw [List.length_append, List.length_take, List.length_drop]; omega, by rw [List.length_map]; omega, by omega, ⟨_, _, _, _, _, rfl⟩, mv_le (mv_upd M1 nu) (by omega), ws ++ [z.take j ++ cs ++ z.drop (j + 1)], by rw [List.map_append]; rfl, fun w hw' => ?_, by rw [List.length_append, List.length_singleton]; omega⟩
              rcases List.mem_append.mp hw' with hw' | hw'
              · exact hw w hw'
              · rw [List.mem_singleton] at hw'
                subst hw'
                exact ⟨by rw [List.length_append, List.length_append, List.length_take, List.length_drop]; omega, allS_app (allS_app z1 hc) z2⟩
            · obtain ⟨hin, rfl⟩ := rngD_get hd
              refine ⟨_, rfl, fun _ => ?_, fun z => by cases z⟩
              show [D.ref p, .str ABZ].length = 2 ∧ sp__law_one_of [.ref p, .str ABZ] g _ _
              refine ⟨rfl, pen_le (mv_pen P M) (by omega), by decide, by decide, fun c g' hcx M0 => ?_⟩
              have M' := mv_moved M M0
              refine ⟨by rw [List.length_map]; omega, by omega, mv_le M' (by omega), moved_old M0 hu up, cs ++ [c], by simp [hl2], by simp, allS_app hc fun c' h' => ?_⟩
              simp at h'
              subst h'
              exact abz_small hcx
          · have hO' : (k == kO) = false := by simpa using hO
            simp only [hO', forall_const, true_implies, false_implies, implies_true, and_true, true_and, reduceCtorEq, Bool.not_true, Bool.not_false, Bool.true_xor, Bool.false_xor, Option.some.injEq, exists_eq_left', put_same, onB_bl, dSeq, dNext, dBreak, dDrop, dRet, dRetN, dIfS, dName, dgNil, dgCons, dgTup, dAsg, dPar, dPar3, dSetI, dgSub, dRaise, dVar, dC, dOp, dTest, dAnd, dOr, dNot, dAndV, dOrV, dNotV, dIf, dNil, dCons, dTup, dLst, dCall, dCB, dMt, dMt0, dInC, dIxC, dChain, dNeg, dNoPart, dPart, dSl, exE, dIsA, dCat, catchD, subE, Ex.ix, endsD, dLc, dISeq, dIRng1, dIRng2, dIEnum, dFor, dDcT, dDcK, dCallV, mStarts_str, List.getElem?_cons_zero, List.getElem?_cons_succ, List.set_cons_zero, List.set_cons_succ, onL_lst, isA_non, isA_int_int, isA_bool_int, isA_str_int, isA_tup_int, isA_lst_int, isA_int_str, isA_bool_str, isA_str_str, isA_tup_str, isA_lst_str, isA_int_tup, isA_bool_tup, isA_str_tup, isA_tup_tup, isA_lst_tup, isA_int_bl, isA_bool_bl, isA_str_bl, isA_tup_bl, isA_lst_bl, dAdd_int, dAdd_str, dAdd_tup, dAdd_ref, dSub_int, dLt_int, dLe_int, dGt_int, dGe_int, dMul_int, dMul_str, dMul_ref, dMod_int, dFdiv_int, dPow_int, dIsN_, dNotN_, isNon_int, isNon_non, dEq_str, dEq_int, dNe_str, dNe_int, dIn_sign, dIx_str, dIx_tup, dIx_scr, dIx_ref, dCut_str, dCut_tup, dCut_scr, dCut_ref, bLen_str, bLen_tup, bLen_ref, bInt_int, bInt_bl, bTup_tup, bTup_ref, bList_str, bList_tup, bList_ref, tyD_str, mAppend_ref, mExtend_ref, tyL, dSetL_ref, mJoin_ref, bMin_ref, bMax_ref, atI_0, atI_1, atI_2]
            exact ⟨by omega, ⟨_, _, _, _, _, rfl⟩, mv_le M (by omega), ws, hu, hw, by omega⟩
      · rintro δ g ⟨_, ⟨s8, s9, s10, s11, s12, rfl⟩, M, ws, hu, hw, hl⟩
        rw [rngD_len] at M hl
        exact ⟨by omega, ⟨_, _, _, _, _, _, rfl⟩, mv_le M (by omega), ws, hu, hw, by omega⟩
    · rintro δ g ⟨_, ⟨s4, s8, s9, s10, s11, s12, rfl⟩, M, ws, hu, hw, hl⟩
      rw [rngD_len] at M hl
      simp only [forall_const, true_implies, false_implies, implies_true, and_true, true_and, reduceCtorEq, Bool.not_true, Bool.not_false, Bool.true_xor, Bool.false_xor, Option.some.injEq, exists_eq_left', put_same, onB_bl, dSeq, dNext, dBreak, dDrop, dRet, dRetN, dIfS, dName, dgNil, dgCons, dgTup, dAsg, dPar, dPar3, dSetI, dgSub, dRaise, dVar, dC, dOp, dTest, dAnd, dOr, dNot, dAndV, dOrV, dNotV, dIf, dNil, dCons, dTup, dLst, dCall, dCB, dMt, dMt0, dInC, dIxC, dChain, dNeg, dNoPart, dPart, dSl, exE, dIsA, dCat, catchD, subE, Ex.ix, endsD, dLc, dISeq, dIRng1, dIRng2, dIEnum, dFor, dDcT, dDcK, dCallV, mStarts_str, List.getElem?_cons_zero, List.getElem?_cons_succ, List.set_cons_zero, List.set_cons_succ, onL_lst, isA_non, isA_int_int, isA_bool_int, isA_str_int, isA_tup_int, isA_lst_int, isA_int_str, isA_bool_str, isA_str_str, isA_tup_str, isA_lst_str, isA_int_tup, isA_bool_tup, isA_str_tup, isA_tup_tup, isA_lst_tup, isA_int_bl, isA_bool_bl, isA_str_bl, isA_tup_bl, isA_lst_bl, dAdd_int, dAdd_str, dAdd_tup, dAdd_ref, dSub_int, dLt_int, dLe_int, dGt_int, dGe_int, dMul_int, dMul_str, dMul_ref, dMod_int, dFdiv_int, dPow_int, dIsN_, dNotN_, isNon_int, isNon_non, dEq_str, dEq_int, dNe_str, dNe_int, dIn_sign, dIx_str, dIx_tup, dIx_scr, dIx_ref, dCut_str, dCut_tup, dCut_scr, dCut_ref, bLen_str, bLen_tup, bLen_ref, bInt_int, bInt_bl, bTup_tup, bTup_ref, bList_str, bList_tup, bList_ref, tyD_str, mAppend_ref, mExtend_ref, tyL, dSetL_ref, mJoin_ref, bMin_ref, bMax_ref, atI_0, atI_1, atI_2]
      refine ⟨fun hk => ⟨by omega, ?_⟩, fun hk => (show srcEnd (endsD Q E) [some (.ref p), some (.tup [.str k, .int a, .int b]), some (.str z), some (.ref u), s4, some (.str k), some (.int a), some (.int b), s8, s9, s10, s11, s12] g from srcEnd_ok rfl P up nu (mv_le M (by omega)) hu hw (by omega) q)⟩
      have ek : k = kF := by simpa using hk
      have zl := lF ek
      refine forB_inv (fun j δ h' => j ≤ 4 ∧ (∃ s4 s8 s9 s10 s11 s12, δ = [some (.ref p), some (.tup [.str k, .int a, .int b]), some (.str z), some (.ref u), s4, some (.str k), some (.int a), some (.int b), s8, s9, s10, s11, s12]) ∧ Mv h p (240 + 17 * j) h' ∧ ∃ ws : List Tx, h' u = some (.lst (ws.map D.str)) ∧ (∀ w ∈ ws, okS w) ∧ ws.length ≤ 80 + j)
        ⟨by omega, ⟨_, _, _, _, _, _, rfl⟩, mv_le M (by omega), ws, hu, hw, by omega⟩ (fun _ _ _ _ => True.intro) ?_ ?_
      · rintro δ g ⟨_, ⟨s4, s8, s9, s10, s11, s12, rfl⟩, M, ws, hu, hw, hl⟩
        rw [rngD_len] at M hl
        exact srcEnd_ok rfl P up nu (mv_le M (by omega)) hu hw (by omega) q
      · rintro j d δ h' hd ⟨hj, ⟨s4, s8, s9, s10, s11, s12, rfl⟩, M, ws, hu, hw, hl⟩
        obtain ⟨hjn, rfl⟩ := rngD_get hd
        simp only [forall_const, true_implies, false_implies, implies_true, and_true, true_and, reduceCtorEq, Bool.not_true, Bool.not_false, Bool.true_xor, Bool.false_xor, Option.some.injEq, exists_eq_left', put_same, onB_bl, dSeq, dNext, dBreak, dDrop, dRet, dRetN, dIfS, dName, dgNil, dgCons, dgTup, dAsg, dPar, dPar3, dSetI, dgSub, dRaise, dVar, dC, dOp, dTest, dAnd, dOr, dNot, dAndV, dOrV, dNotV, dIf, dNil, dCons, dTup, dLst, dCall, dCB, dMt, dMt0, dInC, dIxC, dChain, dNeg, dNoPart, dPart, dSl, exE, dIsA, dCat, catchD, subE, Ex.ix, endsD, dLc, dISeq, dIRng1, dIRng2, dIEnum, dFor, dDcT, dDcK, dCallV, mStarts_str, List.getElem?_cons_zero, List.getElem?_cons_succ, List.set_cons_zero, List.set_cons_succ, onL_lst, isA_non, isA_int_int, isA_bool_int, isA_str_int, isA_tup_int, isA_lst_int, isA_int_str, isA_bool_str, isA_str_str, isA_tup_str, isA_lst_str, isA_int_tup, isA_bool_tup, isA_str_tup, isA_tup_tup, isA_lst_tup, isA_int_bl, isA_bool_bl, isA_str_bl, isA_tup_bl, isA_lst_bl, dAdd_int, dAdd_str, dAdd_tup, dAdd_ref, dSub_int, dLt_int, dLe_int, dGt_int, dGe_int, dMul_int, dMul_str, dMul_ref, dMod_int, dFdiv_int, dPow_int, dIsN_, dNotN_, isNon_int, isNon_non, dEq_str, dEq_int, dNe_str, dNe_int, dIn_sign, dIx_str, dIx_tup, dIx_scr, dIx_ref, dCut_str, dCut_tup, dCut_scr, dCut_ref, bLen_str, bLen_tup, bLen_ref, bInt_int, bInt_bl, bTup_tup, bTup_ref, bList_str, bList_tup, bList_ref, tyD_str, mAppend_ref, mExtend_ref, tyL, dSetL_ref, mJoin_ref, bMin_ref, bMax_ref, atI_0, atI_1, atI_2, hu]
        refine ⟨fun t acc g => t ≤ 16 ∧ Mv h p (240 + 17 * j + t) g ∧ g u = some (.lst (ws.map D.str)) ∧ ∃ cs : Tx, cs.length = t ∧ acc = cs.map (fun c => .str [c]) ∧ allS cs, ⟨Nat.zero_le _, mv_le M (by omega), hu, [], rfl, rfl, by simp [allS]⟩, ?_⟩
        rintro t acc g ⟨ht, M, hu, cs, hl2, rfl, hc⟩
        refine ⟨True.intro, fun e r nr => ?_, fun d hd => ?_⟩
        · have M1 := mv_new (o := .lst (cs.map fun c => .str [c])) M nr
          have hu1 := put_old (o := .lst (cs.map fun c => .str [c])) hu nr
          refine ⟨cs.map fun c => [c], by simp [itemsD, put_same], by rw [sum_signs]; simp; omega, ?_⟩
          rw [signs_join]
          simp only [forall_const, true_implies, false_implies, implies_true, and_true, true_and, reduceCtorEq, Bool.not_true, Bool.not_false, Bool.true_xor, Bool.false_xor, Option.some.injEq, exists_eq_left', put_same, onB_bl, dSeq, dNext, dBreak, dDrop, dRet, dRetN, dIfS, dName, dgNil, dgCons, dgTup, dAsg, dPar, dPar3, dSetI, dgSub, dRaise, dVar, dC, dOp, dTest, dAnd, dOr, dNot, dAndV, dOrV, dNotV, dIf, dNil, dCons, dTup, dLst, dCall, dCB, dMt, dMt0, dInC, dIxC, dChain, dNeg, dNoPart, dPart, dSl, exE, dIsA, dCat, catchD, subE, Ex.ix, endsD, dLc, dISeq, dIRng1, dIRng2, dIEnum, dFor, dDcT, dDcK, dCallV, mStarts_str, List.getElem?_cons_zero, List.getElem?_cons_succ, List.set_cons_zero, List.set_cons_succ, onL_lst, isA_non, isA_int_int, isA_bool_int, isA_str_int, isA_tup_int, isA_lst_int, isA_int_str, isA_bool_str, isA_str_str, isA_tup_str, isA_lst_str, isA_int_tup, isA_bool_tup, isA_str_tup, isA_tup_tup, isA_lst_tup, isA_int_bl, isA_bool_bl, isA_str_bl, isA_tup_bl, isA_lst_bl, dAdd_int, dAdd_str, dAdd_tup, dAdd_ref, dSub_int, dLt_int, dLe_int, dGt_int, dGe_int, dMul_int, dMul_str, dMul_ref, dMod_int, dFdiv_int, dPow_int, dIsN_, dNotN_, isNon_int, isNon_non, dEq_str, dEq_int, dNe_str, dNe_int, dIn_sign, dIx_str, dIx_tup, dIx_scr, dIx_ref, dCut_str, dCut_tup, dCut_scr, dCut_ref, bLen_str, bLen_tup, bLen_ref, bInt_int, bInt_bl, bTup_tup, bTup_ref, bList_str, bList_tup, bList_ref, tyD_str, mAppend_ref, mExtend_ref, tyL, dSetL_ref, mJoin_ref, bMin_ref, bMax_ref, atI_0, atI_1, atI_2, hu1]
          refine ⟨by rw [List.length_map]; omega, by omega, ⟨_, _, _, _, _, _, rfl⟩, mv_le (mv_upd M1 nu) (by omega), ws ++ [cs], by rw [List.map_append]; rfl, fun w hw' => ?_, by rw [List.length_append, List.length_singleton]; omega⟩
          rcases List.mem_append.mp hw' with hw' | hw'
          · exact hw w hw'
          · rw [List.mem_singleton] at hw'
            subst hw'
            exact ⟨by omega, hc⟩
        · rw [List.getElem?_map] at hd
          obtain ⟨c, ec, rfl⟩ := Option.map_eq_some_iff.mp hd
          have hcz := List.mem_of_getElem? ec
          have htz : t < z.length := (List.getElem?_eq_some_iff.mp ec).1
          refine ⟨_, rfl, fun _ => ?_, fun z => by cases z⟩
          have nx : ∀ (c' : Nat) (g' : DHp), c' ∈ SMALL → Mv h p (240 + 17 * j + (t + 1)) g' → g' u = some (.lst (ws.map D.str)) → (cs.map fun c => D.str [c]).length < sizeLine ∧ t + 1 ≤ 16 ∧ Mv h p (240 + 17 * j + ((t + 1 : Nat) : Int)) g' ∧ g' u = some (.lst (ws.map D.str)) ∧ ∃ cs2 : Tx, cs2.length = t + 1 ∧ (cs.map fun c => D.str [c]) ++ [.str [c']] = cs2.map (fun c => .str [c]) ∧ allS cs2 := fun c' g' hs' M' hu' =>
            ⟨by rw [List.length_map]; omega, by omega, mv_le M' (by omega), hu', cs ++ [c'], by simp [hl2], by simp, allS_app hc fun c2 h2 => by simp at h2; subst h2; exact hs'⟩
          show (([c] == [63]) = true → [D.ref p, .str ABZ].length = 2 ∧ sp__law_one_of [.ref p, .str ABZ] g (fun y h4 => _) nox) ∧ (([c] == [63]) = false → _)
          refine ⟨fun _ => ⟨rfl, pen_le (mv_pen P M) (by omega), by decide, by decide, fun c' g' hcx M0 => nx c' g' (abz_small hcx) (mv_le (mv_moved M M0) (by omega)) (moved_old M0 hu up)⟩, fun hb => nx c g ?_ (mv_le M (by omega)) hu⟩
          rcases zl c hcz with q | q
          · exact q
          · subst q; simp at hb

/-! ### what is refused -/
theorem as_rule {ks : List Tx} {k2 : Tx} {t : D} {g : DHp} {K : DK} {E : DX} (pt : Plain t g) (pp : ∀ xs, t = .tup xs → ∀ x ∈ xs, Plain x g) (e : isKindR t ks = false) (q : E .rule g) : [t, D.non, .non, .non].length = 4 ∧ asSp ks k2 [t, .non, .non, .non] g K E :=
  ⟨rfl, pt, pp, plain_n, plain_n, plain_n, fun x z => (by cases z), fun x z => (by cases z), fun x z => (by cases z), fun _ => q, fun k a b _ z => (by rw [e] at z; cases z)⟩
theorem as_word {ks : List Tx} {k2 k : Tx} {a b : Int} {w o r : D} {g : DHp} {K : DK} {E : DX} (hr : isKindR (.tup [.str k, .int a, .int b]) ks = true) (pw : Plain w g) (po : Plain o g) (pr : Plain r g) (lw : ∀ x, w = .str x → x.length ≤ 10000) (lo : ∀ x, o = .str x → x.length ≤ 10000) (lr : ∀ x, r = .str x → x.length ≤ 10000)
    (ne : ∀ x y, ¬ twoW w o x y) (q : E .word g) : [D.tup [.str k, .int a, .int b], w, o, r].length = 4 ∧ asSp ks k2 [.tup [.str k, .int a, .int b], w, o, r] g K E :=
  ⟨rfl, plain_t, rule_parts, pw, po, pr, lw, lo, lr, fun z => (by rw [hr] at z; cases z), fun k' a' b' _ _ => ⟨fun _ => q, fun x y c => absurd c (ne x y)⟩⟩
theorem as_reading {ks : List Tx} {k2 k : Tx} {a b : Int} {x y : Tx} {r : D} {g : DHp} {K : DK} {E : DX} (hr : isKindR (.tup [.str k, .int a, .int b]) ks = true) (ox : okS x) (oy : okS y) (pr : Plain r g) (lr : ∀ x, r = .str x → x.length ≤ 10000)
    (two : x ≠ y) (ne : ∀ z, ¬ sharedR k a.toNat b.toNat x y r z) (q : E .reading g) : [D.tup [.str k, .int a, .int b], .str x, .str y, r].length = 4 ∧ asSp ks k2 [.tup [.str k, .int a, .int b], .str x, .str y, r] g K E := by
  have l1 := ox.1
  have l2 := oy.1
  refine ⟨rfl, plain_t, rule_parts, plain_s, plain_s, pr, fun _ z => (by cases z; omega), fun _ z => (by cases z; omega), lr, fun z => (by rw [hr] at z; cases z), fun k' a' b' e _ => ⟨fun c => absurd ⟨rfl, rfl, okS_text ox, okS_text oy, two⟩ (c x y), fun x' y' c => ?_⟩⟩
  cases e
  obtain ⟨c1, c2, _⟩ := c
  cases c1; cases c2
  exact ⟨fun z sh => absurd sh (ne z), fun _ => q⟩
def fs44 : List (Str × Nat × SpD) := [("as_open", 4, sp_as_open), ("as_closed", 4, sp_as_closed)]
def workK (w : Str) (k : Tx) (ks : List Tx) (k2 : Tx) : Prop := (w = "as_open" ∧ k = kF ∧ ks = [kF] ∧ k2 = kO) ∨ (w = "as_closed" ∧ (k = kO ∨ k = kD) ∧ ks = [kO, kD] ∧ k2 = kC)
theorem work_pick {w : Str} {k k2 : Tx} {ks : List Tx} (h : workK w k ks k2) : pickF w [("as_open", 4, sp_as_open), ("as_closed", 4, sp_as_closed)] = some (4, asSp ks k2) := by
  rcases h with ⟨rfl, _, rfl, rfl⟩ | ⟨rfl, _, rfl, rfl⟩ <;> rfl
theorem work_in {w : Str} {k k2 : Tx} {ks : List Tx} (h : workK w k ks k2) : k ∈ ks := by
  rcases h with ⟨_, rfl, rfl, _⟩ | ⟨_, rfl | rfl, rfl, _⟩ <;> simp
/-- rules that do not serve -/
def oddK (k : Tx) : List D := (if k == kF then [.tup [.str kD, .int 0, .int 1], .tup [.str kO, .int 0, .int 1]] else [.tup [.str kF, .int 0, .int 1]]) ++ [.non, .tup [.str k, .int 1], .tup [.str kC, .int 0, .int 1], .tup [.str k, .int 2, .int 1], .str kO, .tup []]
theorem kindR_no {t : D} {ks : List Tx} (h : isRule t = false) : isKindR t ks = false := by simp [isKindR, h]
theorem kindR_other {k : Tx} {a b : D} {ks : List Tx} (h : k ∉ ks) : isKindR (.tup [.str k, a, b]) ks = false := by simp [isKindR, h]
theorem low_most {k : Tx} : isRule (.tup [.str k, .int 2, .int 1]) = false := by
  simp only [isRule]
  split
  · simp [within]
  · rfl
theorem odd_k {w : Str} {k k2 : Tx} {ks : List Tx} {d : D} {g : DHp} (h : workK w k ks k2) (hd : d ∈ oddK k) : Plain d g ∧ (∀ xs, d = .tup xs → ∀ x ∈ xs, Plain x g) ∧ isKindR d ks = false := by
  have tp : ∀ {k : Tx} {a b : Int}, Plain (.tup [.str k, .int a, .int b]) g ∧ ∀ xs, D.tup [.str k, .int a, .int b] = .tup xs → ∀ x ∈ xs, Plain x g := ⟨plain_t, rule_parts⟩
  have d1 : kF ∉ [kO, kD] := by decide
  have d2 : kD ∉ [kF] := by decide
  have d3 : kO ∉ [kF] := by decide
  have d4 : kC ∉ [kO, kD] := by decide
  have d5 : kC ∉ [kF] := by decide
  have kc : kC ∉ ks := by
    rcases h with ⟨_, _, rfl, _⟩ | ⟨_, _, rfl, _⟩
    · exact d5
    · exact d4
  unfold oddK at hd
  rcases List.mem_append.mp hd with hd | hd
  · rcases h with ⟨_, rfl, rfl, _⟩ | ⟨_, hk, rfl, _⟩
    · simp only [show (kF == kF) = true from rfl, if_true, List.mem_cons, List.mem_nil_iff, or_false] at hd
      rcases hd with rfl | rfl
      · exact ⟨tp.1, tp.2, kindR_other d2⟩
      · exact ⟨tp.1, tp.2, kindR_other d3⟩
    · have e : (k == kF) = false := by rcases hk with rfl | rfl <;> rfl
      simp only [e, Bool.false_eq_true, if_false, List.mem_cons, List.mem_nil_iff, or_false] at hd
      subst hd
      exact ⟨tp.1, tp.2, kindR_other d1⟩
  · simp only [List.mem_cons, List.mem_nil_iff, or_false] at hd
    rcases hd with rfl | rfl | rfl | rfl | rfl | rfl
    · exact ⟨plain_n, fun xs z => (by cases z), kindR_no rfl⟩
    · refine ⟨plain_t, fun xs z x hx => ?_, kindR_no rfl⟩
      cases z
      simp only [List.mem_cons, List.mem_nil_iff, or_false] at hx
      rcases hx with rfl | rfl
      · exact plain_s
      · exact plain_i
    · exact ⟨tp.1, tp.2, kindR_other kc⟩
    · exact ⟨tp.1, tp.2, kindR_no low_most⟩
    · exact ⟨plain_s, fun xs z => (by cases z), kindR_no rfl⟩
    · exact ⟨plain_t, fun xs z x hx => (by cases z; cases hx), kindR_no rfl⟩
end Tw

namespace Tw
open PySem PySem.Spec PyProof.Rows L2
def oddT (r : Addr) : List D := [.non, .int 1, .str [65], .str [97, 63], .str (repD (Int.toNat 201) [97]), .ref r, .str [97, 123], .str [126], .str [49]]
theorem long_no : isText (.str (repD (Int.toNat 201) [97])) SMALL = false := by
  have : (repD (Int.toNat 201) [97]).length = 201 := by decide
  generalize repD (Int.toNat 201) [97] = l at this
  simp [isText, this]
theorem odd_t {d : D} {r : Addr} {h : DHp} {xs : List D} (e : h r = some (.lst xs)) (hd : d ∈ oddT r) : Plain d h ∧ (∀ x, d = .str x → x.length ≤ 10000) ∧ isText d SMALL = false := by
  simp only [oddT, List.mem_cons, List.mem_nil_iff, or_false] at hd
  rcases hd with rfl | rfl | rfl | rfl | rfl | rfl | rfl | rfl | rfl
  · exact ⟨plain_n, fun x z => (by cases z), rfl⟩
  · exact ⟨plain_i, fun x z => (by cases z), rfl⟩
  · exact ⟨plain_s, fun x z => (by cases z; decide), by decide⟩
  · exact ⟨plain_s, fun x z => (by cases z; decide), by decide⟩
  · exact ⟨plain_s, fun x z => (by cases z; decide), long_no⟩
  · exact ⟨fun t => by cases t <;> simp [isA, e], fun x z => (by cases z), rfl⟩
  · exact ⟨plain_s, fun x z => (by cases z; decide), by decide⟩
  · exact ⟨plain_s, fun x z => (by cases z; decide), by decide⟩
  · exact ⟨plain_s, fun x z => (by cases z; decide), by decide⟩
def sp__law_refused_right : SpD := fun ds h Q _ => match ds with
  | [.tup [.str k, .int a, .int b], .fn w, .ref rw, .str z] => ∃ ks k2 x y, workK w k ks k2 ∧ isRule (.tup [.str k, .int a, .int b]) = true ∧ h rw = some (.lst [.str x, .str y]) ∧ okS x ∧ okS y ∧ x ≠ y ∧ z.length ≤ 300 ∧ okTx z ∧ Q (.bl true) h
  | _ => False
/-- _law_refused_right(rule, work, words, reading); slots: rule 0, work 1, words 2, reading 3, other_kinds 4, odd 5, wide 6, more 7, one 8, other 9, is_both 10 -/
def N__law_refused_right : List Str := ["rule", "work", "words", "reading", "other_kinds", "odd", "wide", "more", "one", "other", "is_both"]
def m__law_refused_right : MS := dSeq (dAsg (dVar 2) (dgTup 2 (dgCons (dName 8) (dgCons (dName 9) (dgNil))))) (dSeq (dAsg (dIf (dTest (dOp dEq (dOp dIx (dVar 0) (dC (.int 0))) (dC (.str [102, 97, 100, 101, 100])))) (dLst (dCons (dTup (dCons (dC (.str [100, 111, 117, 98, 108, 101, 100])) (dCons (dC (.int 0)) (dCons (dC (.int 1)) (dNil))))) (dCons (dTup (dCons (dC (.str [111, 112, 101, 110])) (dCons (dC (.int 0)) (dCons (dC (.int 1)) (dNil))))) (dNil)))) (dLst (dCons (dTup (dCons (dC (.str [102, 97, 100, 101, 100])) (dCons (dC (.int 0)) (dCons (dC (.int 1)) (dNil))))) (dNil)))) (dName 4)) (dSeq (dFor (dISeq (dOp dAdd (dVar 4) (dLst (dCons (dC .non) (dCons (dTup (dCons (dOp dIx (dVar 0) (dC (.int 0))) (dCons (dC (.int 1)) (dNil)))) (dCons (dTup (dCons (dC (.str [99, 108, 111, 115, 101, 100])) (dCons (dC (.int 0)) (dCons (dC (.int 1)) (dNil))))) (dCons (dTup (dCons (dOp dIx (dVar 0) (dC (.int 0))) (dCons (dC (.int 2)) (dCons (dC (.int 1)) (dNil))))) (dCons (dC (.str [111, 112, 101, 110])) (dCons (dTup (dNil)) (dNil)))))))))) (dName 5) (dIfS (dTest (dOp dNe (dCat [.tear, .rule, .word, .reading] [(.rule, [114, 117, 108, 101]), (.word, [119, 111, 114, 100]), (.reading, [114, 101, 97, 100, 105, 110, 103]), (.tear, [111, 100, 100])] [110, 111, 110, 101] (dCallV 1 [("as_open", 4, sp_as_open), ("as_closed", 4, sp_as_closed)] (dCons (dVar 5) (dCons (dC .non) (dCons (dC .non) (dCons (dC .non) (dNil))))))) (dC (.str [114, 117, 108, 101])))) (dRet (dC (.bl false))) (dNext))) (dSeq (dFor (dISeq (dLst (dCons (dC .non) (dCons (dC (.int 1)) (dCons (dC (.str [65])) (dCons (dC (.str [97, 63])) (dCons (dOp dMul (dC (.str [97])) (dC (.int 201))) (dCons (dLst (dCons (dC (.str [97])) (dNil))) (dCons (dC (.str [97, 123])) (dCons (dC (.str [126])) (dCons (dC (.str [49])) (dNil)))))))))))) (dName 5) (dSeq (dIfS (dTest (dOp dNe (dCat [.tear, .rule, .word, .reading] [(.rule, [114, 117, 108, 101]), (.word, [119, 111, 114, 100]), (.reading, [114, 101, 97, 100, 105, 110, 103]), (.tear, [111, 100, 100])] [110, 111, 110, 101] (dCallV 1 [("as_open", 4, sp_as_open), ("as_closed", 4, sp_as_closed)] (dCons (dVar 0) (dCons (dVar 5) (dCons (dVar 8) (dCons (dC .non) (dNil))))))) (dC (.str [119, 111, 114, 100])))) (dRet (dC (.bl false))) (dNext)) (dIfS (dTest (dOp dNe (dCat [.tear, .rule, .word, .reading] [(.rule, [114, 117, 108, 101]), (.word, [119, 111, 114, 100]), (.reading, [114, 101, 97, 100, 105, 110, 103]), (.tear, [111, 100, 100])] [110, 111, 110, 101] (dCallV 1 [("as_open", 4, sp_as_open), ("as_closed", 4, sp_as_closed)] (dCons (dVar 0) (dCons (dVar 8) (dCons (dVar 5) (dCons (dC .non) (dNil))))))) (dC (.str [119, 111, 114, 100])))) (dRet (dC (.bl false))) (dNext)))) (dSeq (dFor (dISeq (dLst (dCons (dVar 3) (dCons (dC .non) (dCons (dC (.str [])) (dCons (dC (.str [63, 42])) (dCons (dOp dAdd (dVar 3) (dC (.str [97]))) (dNil)))))))) (dName 5) (dIfS (dTest (dOp dNe (dCat [.tear, .rule, .word, .reading] [(.rule, [114, 117, 108, 101]), (.word, [119, 111, 114, 100]), (.reading, [114, 101, 97, 100, 105, 110, 103]), (.tear, [111, 100, 100])] [110, 111, 110, 101] (dCallV 1 [("as_open", 4, sp_as_open), ("as_closed", 4, sp_as_closed)] (dCons (dVar 0) (dCons (dVar 8) (dCons (dVar 8) (dCons (dVar 5) (dNil))))))) (dC (.str [119, 111, 114, 100])))) (dRet (dC (.bl false))) (dNext))) (dSeq (dAsg (dTup (dCons (dOp dIx (dVar 0) (dC (.int 0))) (dCons (dC (.int 0)) (dCons (dIf (dTest (dOp dEq (dOp dIx (dVar 0) (dC (.int 0))) (dC (.str [100, 111, 117, 98, 108, 101, 100])))) (dC (.int 2)) (dC (.int 3))) (dNil))))) (dName 6)) (dSeq (dAsg (dOp dAdd (dSl (dCall 2 sp__law_readings (dCons (dVar 6) (dCons (dVar 8) (dNil)))) (dNoPart) (dPart (dC (.int 9)))) (dSl (dCall 2 sp__law_readings (dCons (dVar 6) (dCons (dVar 9) (dNil)))) (dPart (dNeg (dC (.int 9)))) (dNoPart))) (dName 7)) (dSeq (dFor (dISeq (dOp dAdd (dLst (dCons (dC .non) (dCons (dC (.int 1)) (dCons (dOp dAdd (dVar 3) (dC (.str [97]))) (dCons (dOp dAdd (dC (.str [98])) (dVar 3)) (dCons (dLst (dCons (dVar 3) (dNil))) (dCons (dC (.str [])) (dCons (dC (.str [63, 42])) (dNil))))))))) (dVar 7))) (dName 5) (dSeq (dAsg (dAndV (dOp (dIn false) (dVar 5) (dCall 2 sp__law_readings (dCons (dVar 0) (dCons (dVar 8) (dNil))))) (dOp (dIn false) (dVar 5) (dCall 2 sp__law_readings (dCons (dVar 0) (dCons (dVar 9) (dNil)))))) (dName 10)) (dIfS (dAnd (dNot (dTest (dVar 10))) (dTest (dOp dNe (dCat [.tear, .rule, .word, .reading] [(.rule, [114, 117, 108, 101]), (.word, [119, 111, 114, 100]), (.reading, [114, 101, 97, 100, 105, 110, 103]), (.tear, [111, 100, 100])] [110, 111, 110, 101] (dCallV 1 [("as_open", 4, sp_as_open), ("as_closed", 4, sp_as_closed)] (dCons (dVar 0) (dCons (dVar 8) (dCons (dVar 9) (dCons (dVar 5) (dNil))))))) (dC (.str [114, 101, 97, 100, 105, 110, 103]))))) (dRet (dC (.bl false))) (dNext)))) (dRet (dC (.bl true))))))))))
theorem st__law_refused_right (a0 a1 a2 a3 : D) : startD N__law_refused_right [a0, a1, a2, a3] = [some a0, some a1, some a2, some a3, none, none, none, none, none, none, none] := rfl
def t__law_refused_right_1 : MS := dSeq (dAsg (dIf (dTest (dOp dEq (dOp dIx (dVar 0) (dC (.int 0))) (dC (.str [102, 97, 100, 101, 100])))) (dLst (dCons (dTup (dCons (dC (.str [100, 111, 117, 98, 108, 101, 100])) (dCons (dC (.int 0)) (dCons (dC (.int 1)) (dNil))))) (dCons (dTup (dCons (dC (.str [111, 112, 101, 110])) (dCons (dC (.int 0)) (dCons (dC (.int 1)) (dNil))))) (dNil)))) (dLst (dCons (dTup (dCons (dC (.str [102, 97, 100, 101, 100])) (dCons (dC (.int 0)) (dCons (dC (.int 1)) (dNil))))) (dNil)))) (dName 4)) (dSeq (dFor (dISeq (dOp dAdd (dVar 4) (dLst (dCons (dC .non) (dCons (dTup (dCons (dOp dIx (dVar 0) (dC (.int 0))) (dCons (dC (.int 1)) (dNil)))) (dCons (dTup (dCons (dC (.str [99, 108, 111, 115, 101, 100])) (dCons (dC (.int 0)) (dCons (dC (.int 1)) (dNil))))) (dCons (dTup (dCons (dOp dIx (dVar 0) (dC (.int 0))) (dCons (dC (.int 2)) (dCons (dC (.int 1)) (dNil))))) (dCons (dC (.str [111, 112, 101, 110])) (dCons (dTup (dNil)) (dNil)))))))))) (dName 5) (dIfS (dTest (dOp dNe (dCat [.tear, .rule, .word, .reading] [(.rule, [114, 117, 108, 101]), (.word, [119, 111, 114, 100]), (.reading, [114, 101, 97, 100, 105, 110, 103]), (.tear, [111, 100, 100])] [110, 111, 110, 101] (dCallV 1 [("as_open", 4, sp_as_open), ("as_closed", 4, sp_as_closed)] (dCons (dVar 5) (dCons (dC .non) (dCons (dC .non) (dCons (dC .non) (dNil))))))) (dC (.str [114, 117, 108, 101])))) (dRet (dC (.bl false))) (dNext))) (dSeq (dFor (dISeq (dLst (dCons (dC .non) (dCons (dC (.int 1)) (dCons (dC (.str [65])) (dCons (dC (.str [97, 63])) (dCons (dOp dMul (dC (.str [97])) (dC (.int 201))) (dCons (dLst (dCons (dC (.str [97])) (dNil))) (dCons (dC (.str [97, 123])) (dCons (dC (.str [126])) (dCons (dC (.str [49])) (dNil)))))))))))) (dName 5) (dSeq (dIfS (dTest (dOp dNe (dCat [.tear, .rule, .word, .reading] [(.rule, [114, 117, 108, 101]), (.word, [119, 111, 114, 100]), (.reading, [114, 101, 97, 100, 105, 110, 103]), (.tear, [111, 100, 100])] [110, 111, 110, 101] (dCallV 1 [("as_open", 4, sp_as_open), ("as_closed", 4, sp_as_closed)] (dCons (dVar 0) (dCons (dVar 5) (dCons (dVar 8) (dCons (dC .non) (dNil))))))) (dC (.str [119, 111, 114, 100])))) (dRet (dC (.bl false))) (dNext)) (dIfS (dTest (dOp dNe (dCat [.tear, .rule, .word, .reading] [(.rule, [114, 117, 108, 101]), (.word, [119, 111, 114, 100]), (.reading, [114, 101, 97, 100, 105, 110, 103]), (.tear, [111, 100, 100])] [110, 111, 110, 101] (dCallV 1 [("as_open", 4, sp_as_open), ("as_closed", 4, sp_as_closed)] (dCons (dVar 0) (dCons (dVar 8) (dCons (dVar 5) (dCons (dC .non) (dNil))))))) (dC (.str [119, 111, 114, 100])))) (dRet (dC (.bl false))) (dNext)))) (dSeq (dFor (dISeq (dLst (dCons (dVar 3) (dCons (dC .non) (dCons (dC (.str [])) (dCons (dC (.str [63, 42])) (dCons (dOp dAdd (dVar 3) (dC (.str [97]))) (dNil)))))))) (dName 5) (dIfS (dTest (dOp dNe (dCat [.tear, .rule, .word, .reading] [(.rule, [114, 117, 108, 101]), (.word, [119, 111, 114, 100]), (.reading, [114, 101, 97, 100, 105, 110, 103]), (.tear, [111, 100, 100])] [110, 111, 110, 101] (dCallV 1 [("as_open", 4, sp_as_open), ("as_closed", 4, sp_as_closed)] (dCons (dVar 0) (dCons (dVar 8) (dCons (dVar 8) (dCons (dVar 5) (dNil))))))) (dC (.str [119, 111, 114, 100])))) (dRet (dC (.bl false))) (dNext))) (dSeq (dAsg (dTup (dCons (dOp dIx (dVar 0) (dC (.int 0))) (dCons (dC (.int 0)) (dCons (dIf (dTest (dOp dEq (dOp dIx (dVar 0) (dC (.int 0))) (dC (.str [100, 111, 117, 98, 108, 101, 100])))) (dC (.int 2)) (dC (.int 3))) (dNil))))) (dName 6)) (dSeq (dAsg (dOp dAdd (dSl (dCall 2 sp__law_readings (dCons (dVar 6) (dCons (dVar 8) (dNil)))) (dNoPart) (dPart (dC (.int 9)))) (dSl (dCall 2 sp__law_readings (dCons (dVar 6) (dCons (dVar 9) (dNil)))) (dPart (dNeg (dC (.int 9)))) (dNoPart))) (dName 7)) (dSeq (dFor (dISeq (dOp dAdd (dLst (dCons (dC .non) (dCons (dC (.int 1)) (dCons (dOp dAdd (dVar 3) (dC (.str [97]))) (dCons (dOp dAdd (dC (.str [98])) (dVar 3)) (dCons (dLst (dCons (dVar 3) (dNil))) (dCons (dC (.str [])) (dCons (dC (.str [63, 42])) (dNil))))))))) (dVar 7))) (dName 5) (dSeq (dAsg (dAndV (dOp (dIn false) (dVar 5) (dCall 2 sp__law_readings (dCons (dVar 0) (dCons (dVar 8) (dNil))))) (dOp (dIn false) (dVar 5) (dCall 2 sp__law_readings (dCons (dVar 0) (dCons (dVar 9) (dNil)))))) (dName 10)) (dIfS (dAnd (dNot (dTest (dVar 10))) (dTest (dOp dNe (dCat [.tear, .rule, .word, .reading] [(.rule, [114, 117, 108, 101]), (.word, [119, 111, 114, 100]), (.reading, [114, 101, 97, 100, 105, 110, 103]), (.tear, [111, 100, 100])] [110, 111, 110, 101] (dCallV 1 [("as_open", 4, sp_as_open), ("as_closed", 4, sp_as_closed)] (dCons (dVar 0) (dCons (dVar 8) (dCons (dVar 9) (dCons (dVar 5) (dNil))))))) (dC (.str [114, 101, 97, 100, 105, 110, 103]))))) (dRet (dC (.bl false))) (dNext)))) (dRet (dC (.bl true)))))))))
def t__law_refused_right_2 : MS := dSeq (dFor (dISeq (dOp dAdd (dVar 4) (dLst (dCons (dC .non) (dCons (dTup (dCons (dOp dIx (dVar 0) (dC (.int 0))) (dCons (dC (.int 1)) (dNil)))) (dCons (dTup (dCons (dC (.str [99, 108, 111, 115, 101, 100])) (dCons (dC (.int 0)) (dCons (dC (.int 1)) (dNil))))) (dCons (dTup (dCons (dOp dIx (dVar 0) (dC (.int 0))) (dCons (dC (.int 2)) (dCons (dC (.int 1)) (dNil))))) (dCons (dC (.str [111, 112, 101, 110])) (dCons (dTup (dNil)) (dNil)))))))))) (dName 5) (dIfS (dTest (dOp dNe (dCat [.tear, .rule, .word, .reading] [(.rule, [114, 117, 108, 101]), (.word, [119, 111, 114, 100]), (.reading, [114, 101, 97, 100, 105, 110, 103]), (.tear, [111, 100, 100])] [110, 111, 110, 101] (dCallV 1 [("as_open", 4, sp_as_open), ("as_closed", 4, sp_as_closed)] (dCons (dVar 5) (dCons (dC .non) (dCons (dC .non) (dCons (dC .non) (dNil))))))) (dC (.str [114, 117, 108, 101])))) (dRet (dC (.bl false))) (dNext))) (dSeq (dFor (dISeq (dLst (dCons (dC .non) (dCons (dC (.int 1)) (dCons (dC (.str [65])) (dCons (dC (.str [97, 63])) (dCons (dOp dMul (dC (.str [97])) (dC (.int 201))) (dCons (dLst (dCons (dC (.str [97])) (dNil))) (dCons (dC (.str [97, 123])) (dCons (dC (.str [126])) (dCons (dC (.str [49])) (dNil)))))))))))) (dName 5) (dSeq (dIfS (dTest (dOp dNe (dCat [.tear, .rule, .word, .reading] [(.rule, [114, 117, 108, 101]), (.word, [119, 111, 114, 100]), (.reading, [114, 101, 97, 100, 105, 110, 103]), (.tear, [111, 100, 100])] [110, 111, 110, 101] (dCallV 1 [("as_open", 4, sp_as_open), ("as_closed", 4, sp_as_closed)] (dCons (dVar 0) (dCons (dVar 5) (dCons (dVar 8) (dCons (dC .non) (dNil))))))) (dC (.str [119, 111, 114, 100])))) (dRet (dC (.bl false))) (dNext)) (dIfS (dTest (dOp dNe (dCat [.tear, .rule, .word, .reading] [(.rule, [114, 117, 108, 101]), (.word, [119, 111, 114, 100]), (.reading, [114, 101, 97, 100, 105, 110, 103]), (.tear, [111, 100, 100])] [110, 111, 110, 101] (dCallV 1 [("as_open", 4, sp_as_open), ("as_closed", 4, sp_as_closed)] (dCons (dVar 0) (dCons (dVar 8) (dCons (dVar 5) (dCons (dC .non) (dNil))))))) (dC (.str [119, 111, 114, 100])))) (dRet (dC (.bl false))) (dNext)))) (dSeq (dFor (dISeq (dLst (dCons (dVar 3) (dCons (dC .non) (dCons (dC (.str [])) (dCons (dC (.str [63, 42])) (dCons (dOp dAdd (dVar 3) (dC (.str [97]))) (dNil)))))))) (dName 5) (dIfS (dTest (dOp dNe (dCat [.tear, .rule, .word, .reading] [(.rule, [114, 117, 108, 101]), (.word, [119, 111, 114, 100]), (.reading, [114, 101, 97, 100, 105, 110, 103]), (.tear, [111, 100, 100])] [110, 111, 110, 101] (dCallV 1 [("as_open", 4, sp_as_open), ("as_closed", 4, sp_as_closed)] (dCons (dVar 0) (dCons (dVar 8) (dCons (dVar 8) (dCons (dVar 5) (dNil))))))) (dC (.str [119, 111, 114, 100])))) (dRet (dC (.bl false))) (dNext))) (dSeq (dAsg (dTup (dCons (dOp dIx (dVar 0) (dC (.int 0))) (dCons (dC (.int 0)) (dCons (dIf (dTest (dOp dEq (dOp dIx (dVar 0) (dC (.int 0))) (dC (.str [100, 111, 117, 98, 108, 101, 100])))) (dC (.int 2)) (dC (.int 3))) (dNil))))) (dName 6)) (dSeq (dAsg (dOp dAdd (dSl (dCall 2 sp__law_readings (dCons (dVar 6) (dCons (dVar 8) (dNil)))) (dNoPart) (dPart (dC (.int 9)))) (dSl (dCall 2 sp__law_readings (dCons (dVar 6) (dCons (dVar 9) (dNil)))) (dPart (dNeg (dC (.int 9)))) (dNoPart))) (dName 7)) (dSeq (dFor (dISeq (dOp dAdd (dLst (dCons (dC .non) (dCons (dC (.int 1)) (dCons (dOp dAdd (dVar 3) (dC (.str [97]))) (dCons (dOp dAdd (dC (.str [98])) (dVar 3)) (dCons (dLst (dCons (dVar 3) (dNil))) (dCons (dC (.str [])) (dCons (dC (.str [63, 42])) (dNil))))))))) (dVar 7))) (dName 5) (dSeq (dAsg (dAndV (dOp (dIn false) (dVar 5) (dCall 2 sp__law_readings (dCons (dVar 0) (dCons (dVar 8) (dNil))))) (dOp (dIn false) (dVar 5) (dCall 2 sp__law_readings (dCons (dVar 0) (dCons (dVar 9) (dNil)))))) (dName 10)) (dIfS (dAnd (dNot (dTest (dVar 10))) (dTest (dOp dNe (dCat [.tear, .rule, .word, .reading] [(.rule, [114, 117, 108, 101]), (.word, [119, 111, 114, 100]), (.reading, [114, 101, 97, 100, 105, 110, 103]), (.tear, [111, 100, 100])] [110, 111, 110, 101] (dCallV 1 [("as_open", 4, sp_as_open), ("as_closed", 4, sp_as_closed)] (dCons (dVar 0) (dCons (dVar 8) (dCons (dVar 9) (dCons (dVar 5) (dNil))))))) (dC (.str [114, 101, 97, 100, 105, 110, 103]))))) (dRet (dC (.bl false))) (dNext)))) (dRet (dC (.bl true))))))))
def t__law_refused_right_3 : MS := dSeq (dFor (dISeq (dLst (dCons (dC .non) (dCons (dC (.int 1)) (dCons (dC (.str [65])) (dCons (dC (.str [97, 63])) (dCons (dOp dMul (dC (.str [97])) (dC (.int 201))) (dCons (dLst (dCons (dC (.str [97])) (dNil))) (dCons (dC (.str [97, 123])) (dCons (dC (.str [126])) (dCons (dC (.str [49])) (dNil)))))))))))) (dName 5) (dSeq (dIfS (dTest (dOp dNe (dCat [.tear, .rule, .word, .reading] [(.rule, [114, 117, 108, 101]), (.word, [119, 111, 114, 100]), (.reading, [114, 101, 97, 100, 105, 110, 103]), (.tear, [111, 100, 100])] [110, 111, 110, 101] (dCallV 1 [("as_open", 4, sp_as_open), ("as_closed", 4, sp_as_closed)] (dCons (dVar 0) (dCons (dVar 5) (dCons (dVar 8) (dCons (dC .non) (dNil))))))) (dC (.str [119, 111, 114, 100])))) (dRet (dC (.bl false))) (dNext)) (dIfS (dTest (dOp dNe (dCat [.tear, .rule, .word, .reading] [(.rule, [114, 117, 108, 101]), (.word, [119, 111, 114, 100]), (.reading, [114, 101, 97, 100, 105, 110, 103]), (.tear, [111, 100, 100])] [110, 111, 110, 101] (dCallV 1 [("as_open", 4, sp_as_open), ("as_closed", 4, sp_as_closed)] (dCons (dVar 0) (dCons (dVar 8) (dCons (dVar 5) (dCons (dC .non) (dNil))))))) (dC (.str [119, 111, 114, 100])))) (dRet (dC (.bl false))) (dNext)))) (dSeq (dFor (dISeq (dLst (dCons (dVar 3) (dCons (dC .non) (dCons (dC (.str [])) (dCons (dC (.str [63, 42])) (dCons (dOp dAdd (dVar 3) (dC (.str [97]))) (dNil)))))))) (dName 5) (dIfS (dTest (dOp dNe (dCat [.tear, .rule, .word, .reading] [(.rule, [114, 117, 108, 101]), (.word, [119, 111, 114, 100]), (.reading, [114, 101, 97, 100, 105, 110, 103]), (.tear, [111, 100, 100])] [110, 111, 110, 101] (dCallV 1 [("as_open", 4, sp_as_open), ("as_closed", 4, sp_as_closed)] (dCons (dVar 0) (dCons (dVar 8) (dCons (dVar 8) (dCons (dVar 5) (dNil))))))) (dC (.str [119, 111, 114, 100])))) (dRet (dC (.bl false))) (dNext))) (dSeq (dAsg (dTup (dCons (dOp dIx (dVar 0) (dC (.int 0))) (dCons (dC (.int 0)) (dCons (dIf (dTest (dOp dEq (dOp dIx (dVar 0) (dC (.int 0))) (dC (.str [100, 111, 117, 98, 108, 101, 100])))) (dC (.int 2)) (dC (.int 3))) (dNil))))) (dName 6)) (dSeq (dAsg (dOp dAdd (dSl (dCall 2 sp__law_readings (dCons (dVar 6) (dCons (dVar 8) (dNil)))) (dNoPart) (dPart (dC (.int 9)))) (dSl (dCall 2 sp__law_readings (dCons (dVar 6) (dCons (dVar 9) (dNil)))) (dPart (dNeg (dC (.int 9)))) (dNoPart))) (dName 7)) (dSeq (dFor (dISeq (dOp dAdd (dLst (dCons (dC .non) (dCons (dC (.int 1)) (dCons (dOp dAdd (dVar 3) (dC (.str [97]))) (dCons (dOp dAdd (dC (.str [98])) (dVar 3)) (dCons (dLst (dCons (dVar 3) (dNil))) (dCons (dC (.str [])) (dCons (dC (.str [63, 42])) (dNil))))))))) (dVar 7))) (dName 5) (dSeq (dAsg (dAndV (dOp (dIn false) (dVar 5) (dCall 2 sp__law_readings (dCons (dVar 0) (dCons (dVar 8) (dNil))))) (dOp (dIn false) (dVar 5) (dCall 2 sp__law_readings (dCons (dVar 0) (dCons (dVar 9) (dNil)))))) (dName 10)) (dIfS (dAnd (dNot (dTest (dVar 10))) (dTest (dOp dNe (dCat [.tear, .rule, .word, .reading] [(.rule, [114, 117, 108, 101]), (.word, [119, 111, 114, 100]), (.reading, [114, 101, 97, 100, 105, 110, 103]), (.tear, [111, 100, 100])] [110, 111, 110, 101] (dCallV 1 [("as_open", 4, sp_as_open), ("as_closed", 4, sp_as_closed)] (dCons (dVar 0) (dCons (dVar 8) (dCons (dVar 9) (dCons (dVar 5) (dNil))))))) (dC (.str [114, 101, 97, 100, 105, 110, 103]))))) (dRet (dC (.bl false))) (dNext)))) (dRet (dC (.bl true)))))))
def t__law_refused_right_4 : MS := dSeq (dFor (dISeq (dLst (dCons (dVar 3) (dCons (dC .non) (dCons (dC (.str [])) (dCons (dC (.str [63, 42])) (dCons (dOp dAdd (dVar 3) (dC (.str [97]))) (dNil)))))))) (dName 5) (dIfS (dTest (dOp dNe (dCat [.tear, .rule, .word, .reading] [(.rule, [114, 117, 108, 101]), (.word, [119, 111, 114, 100]), (.reading, [114, 101, 97, 100, 105, 110, 103]), (.tear, [111, 100, 100])] [110, 111, 110, 101] (dCallV 1 [("as_open", 4, sp_as_open), ("as_closed", 4, sp_as_closed)] (dCons (dVar 0) (dCons (dVar 8) (dCons (dVar 8) (dCons (dVar 5) (dNil))))))) (dC (.str [119, 111, 114, 100])))) (dRet (dC (.bl false))) (dNext))) (dSeq (dAsg (dTup (dCons (dOp dIx (dVar 0) (dC (.int 0))) (dCons (dC (.int 0)) (dCons (dIf (dTest (dOp dEq (dOp dIx (dVar 0) (dC (.int 0))) (dC (.str [100, 111, 117, 98, 108, 101, 100])))) (dC (.int 2)) (dC (.int 3))) (dNil))))) (dName 6)) (dSeq (dAsg (dOp dAdd (dSl (dCall 2 sp__law_readings (dCons (dVar 6) (dCons (dVar 8) (dNil)))) (dNoPart) (dPart (dC (.int 9)))) (dSl (dCall 2 sp__law_readings (dCons (dVar 6) (dCons (dVar 9) (dNil)))) (dPart (dNeg (dC (.int 9)))) (dNoPart))) (dName 7)) (dSeq (dFor (dISeq (dOp dAdd (dLst (dCons (dC .non) (dCons (dC (.int 1)) (dCons (dOp dAdd (dVar 3) (dC (.str [97]))) (dCons (dOp dAdd (dC (.str [98])) (dVar 3)) (dCons (dLst (dCons (dVar 3) (dNil))) (dCons (dC (.str [])) (dCons (dC (.str [63, 42])) (dNil))))))))) (dVar 7))) (dName 5) (dSeq (dAsg (dAndV (dOp (dIn false) (dVar 5) (dCall 2 sp__law_readings (dCons (dVar 0) (dCons (dVar 8) (dNil))))) (dOp (dIn false) (dVar 5) (dCall 2 sp__law_readings (dCons (dVar 0) (dCons (dVar 9) (dNil)))))) (dName 10)) (dIfS (dAnd (dNot (dTest (dVar 10))) (dTest (dOp dNe (dCat [.tear, .rule, .word, .reading] [(.rule, [114, 117, 108, 101]), (.word, [119, 111, 114, 100]), (.reading, [114, 101, 97, 100, 105, 110, 103]), (.tear, [111, 100, 100])] [110, 111, 110, 101] (dCallV 1 [("as_open", 4, sp_as_open), ("as_closed", 4, sp_as_closed)] (dCons (dVar 0) (dCons (dVar 8) (dCons (dVar 9) (dCons (dVar 5) (dNil))))))) (dC (.str [114, 101, 97, 100, 105, 110, 103]))))) (dRet (dC (.bl false))) (dNext)))) (dRet (dC (.bl true))))))
def t__law_refused_right_5 : MS := dSeq (dAsg (dTup (dCons (dOp dIx (dVar 0) (dC (.int 0))) (dCons (dC (.int 0)) (dCons (dIf (dTest (dOp dEq (dOp dIx (dVar 0) (dC (.int 0))) (dC (.str [100, 111, 117, 98, 108, 101, 100])))) (dC (.int 2)) (dC (.int 3))) (dNil))))) (dName 6)) (dSeq (dAsg (dOp dAdd (dSl (dCall 2 sp__law_readings (dCons (dVar 6) (dCons (dVar 8) (dNil)))) (dNoPart) (dPart (dC (.int 9)))) (dSl (dCall 2 sp__law_readings (dCons (dVar 6) (dCons (dVar 9) (dNil)))) (dPart (dNeg (dC (.int 9)))) (dNoPart))) (dName 7)) (dSeq (dFor (dISeq (dOp dAdd (dLst (dCons (dC .non) (dCons (dC (.int 1)) (dCons (dOp dAdd (dVar 3) (dC (.str [97]))) (dCons (dOp dAdd (dC (.str [98])) (dVar 3)) (dCons (dLst (dCons (dVar 3) (dNil))) (dCons (dC (.str [])) (dCons (dC (.str [63, 42])) (dNil))))))))) (dVar 7))) (dName 5) (dSeq (dAsg (dAndV (dOp (dIn false) (dVar 5) (dCall 2 sp__law_readings (dCons (dVar 0) (dCons (dVar 8) (dNil))))) (dOp (dIn false) (dVar 5) (dCall 2 sp__law_readings (dCons (dVar 0) (dCons (dVar 9) (dNil)))))) (dName 10)) (dIfS (dAnd (dNot (dTest (dVar 10))) (dTest (dOp dNe (dCat [.tear, .rule, .word, .reading] [(.rule, [114, 117, 108, 101]), (.word, [119, 111, 114, 100]), (.reading, [114, 101, 97, 100, 105, 110, 103]), (.tear, [111, 100, 100])] [110, 111, 110, 101] (dCallV 1 [("as_open", 4, sp_as_open), ("as_closed", 4, sp_as_closed)] (dCons (dVar 0) (dCons (dVar 8) (dCons (dVar 9) (dCons (dVar 5) (dNil))))))) (dC (.str [114, 101, 97, 100, 105, 110, 103]))))) (dRet (dC (.bl false))) (dNext)))) (dRet (dC (.bl true)))))
def t__law_refused_right_6 : MS := dSeq (dAsg (dOp dAdd (dSl (dCall 2 sp__law_readings (dCons (dVar 6) (dCons (dVar 8) (dNil)))) (dNoPart) (dPart (dC (.int 9)))) (dSl (dCall 2 sp__law_readings (dCons (dVar 6) (dCons (dVar 9) (dNil)))) (dPart (dNeg (dC (.int 9)))) (dNoPart))) (dName 7)) (dSeq (dFor (dISeq (dOp dAdd (dLst (dCons (dC .non) (dCons (dC (.int 1)) (dCons (dOp dAdd (dVar 3) (dC (.str [97]))) (dCons (dOp dAdd (dC (.str [98])) (dVar 3)) (dCons (dLst (dCons (dVar 3) (dNil))) (dCons (dC (.str [])) (dCons (dC (.str [63, 42])) (dNil))))))))) (dVar 7))) (dName 5) (dSeq (dAsg (dAndV (dOp (dIn false) (dVar 5) (dCall 2 sp__law_readings (dCons (dVar 0) (dCons (dVar 8) (dNil))))) (dOp (dIn false) (dVar 5) (dCall 2 sp__law_readings (dCons (dVar 0) (dCons (dVar 9) (dNil)))))) (dName 10)) (dIfS (dAnd (dNot (dTest (dVar 10))) (dTest (dOp dNe (dCat [.tear, .rule, .word, .reading] [(.rule, [114, 117, 108, 101]), (.word, [119, 111, 114, 100]), (.reading, [114, 101, 97, 100, 105, 110, 103]), (.tear, [111, 100, 100])] [110, 111, 110, 101] (dCallV 1 [("as_open", 4, sp_as_open), ("as_closed", 4, sp_as_closed)] (dCons (dVar 0) (dCons (dVar 8) (dCons (dVar 9) (dCons (dVar 5) (dNil))))))) (dC (.str [114, 101, 97, 100, 105, 110, 103]))))) (dRet (dC (.bl false))) (dNext)))) (dRet (dC (.bl true))))
def t__law_refused_right_7 : MS := dSeq (dFor (dISeq (dOp dAdd (dLst (dCons (dC .non) (dCons (dC (.int 1)) (dCons (dOp dAdd (dVar 3) (dC (.str [97]))) (dCons (dOp dAdd (dC (.str [98])) (dVar 3)) (dCons (dLst (dCons (dVar 3) (dNil))) (dCons (dC (.str [])) (dCons (dC (.str [63, 42])) (dNil))))))))) (dVar 7))) (dName 5) (dSeq (dAsg (dAndV (dOp (dIn false) (dVar 5) (dCall 2 sp__law_readings (dCons (dVar 0) (dCons (dVar 8) (dNil))))) (dOp (dIn false) (dVar 5) (dCall 2 sp__law_readings (dCons (dVar 0) (dCons (dVar 9) (dNil)))))) (dName 10)) (dIfS (dAnd (dNot (dTest (dVar 10))) (dTest (dOp dNe (dCat [.tear, .rule, .word, .reading] [(.rule, [114, 117, 108, 101]), (.word, [119, 111, 114, 100]), (.reading, [114, 101, 97, 100, 105, 110, 103]), (.tear, [111, 100, 100])] [110, 111, 110, 101] (dCallV 1 [("as_open", 4, sp_as_open), ("as_closed", 4, sp_as_closed)] (dCons (dVar 0) (dCons (dVar 8) (dCons (dVar 9) (dCons (dVar 5) (dNil))))))) (dC (.str [114, 101, 97, 100, 105, 110, 103]))))) (dRet (dC (.bl false))) (dNext)))) (dRet (dC (.bl true)))
def t__law_refused_right_8 : MS := dRet (dC (.bl true))
theorem shaped_t {ws : List Tx} (h : ∀ w ∈ ws, okTx w) : SeqAt.shaped (.tuple (ws.map fun w => PyData.str (tx w))) = true := by
  simp only [SeqAt.shaped, PyData.canLay0, PyData.depth, Bool.and_eq_true, decide_eq_true_eq]
  have e := depth_all ws
  exact ⟨canL_all h, by first | (rw [e]; decide) | (simp [e])⟩
/-- what may be asked for a reading -/
def Asked (g : DHp) (d : D) : Prop := d = .non ∨ d = .int 1 ∨ (∃ s, d = .str s ∧ okTx s ∧ s.length ≤ 10000) ∨ ∃ r z, d = .ref r ∧ g r = some (.lst [.str z]) ∧ okTx z
def inB (d : D) (ws : List Tx) : Bool := match d with
  | .str s => decide (s ∈ ws)
  | _ => false
theorem dIn_asked {g : DHp} {d : D} {ws : List Tx} {r : Addr} {Q : DK} (A : Asked g d) (e : g r = some (.lst (ws.map D.str))) (ok : ∀ w ∈ ws, okTx w) (q : Q (.bl (inB d ws)) g) : dIn false d (.ref r) g Q := by
  have q : Q (.bl (xor false (inB d ws))) g := by rw [Bool.false_xor]; exact q
  have fl : ∀ d, flatD d = true → inB d ws = false → (∀ w ∈ ws, eqFD (.str w) d = false) → Q (.bl (xor false (inB d ws))) g → memD d (ws.map D.str) g fun b => Q (.bl (xor false b)) g := fun d h1 h2 h3 q => by
    refine .inl ⟨h1, by simp [List.all_map, Function.comp_def, flatD], ?_⟩
    have : ((ws.map D.str).any fun y => eqFD y d) = false := by
      rw [List.any_map, List.any_eq_false]
      intro w hw
      simp [h3 w hw]
    rw [h2] at q
    rw [this]
    exact q
  rcases A with rfl | rfl | ⟨s, rfl, _, _⟩ | ⟨u, z, rfl, eu, oz⟩
  · unfold dIn; simp only [e]; exact fl _ rfl rfl (fun _ _ => rfl) q
  · unfold dIn; simp only [e]; exact fl _ rfl rfl (fun _ _ => rfl) q
  · exact dIn_rs e q
  · unfold dIn
    simp only [e]
    refine .inr ⟨.list ([z].map fun w => PyData.str (tx w)), ws.map fun w => PyData.str (tx w), .lst eu (pya_strs [z]), pya_strs ws, shaped_l (by simpa using oz), shaped_l ok, shaped_t ok, ?_⟩
    have : ((ws.map fun w => PyData.str (tx w)).any fun v => PyData.eqv v (.list ([z].map fun w => PyData.str (tx w)))) = false := by
      rw [List.any_map, List.any_eq_false]
      intro w hw
      simp [PyData.eqv]
    rw [this]
    exact q
theorem asked_plain {g : DHp} {d : D} (A : Asked g d) : Plain d g ∧ ∀ x, d = .str x → x.length ≤ 10000 := by
  rcases A with rfl | rfl | ⟨s, rfl, _, hs⟩ | ⟨u, z, rfl, eu, oz⟩
  · exact ⟨plain_n, fun x z => (by cases z)⟩
  · exact ⟨plain_i, fun x z => (by cases z)⟩
  · exact ⟨plain_s, fun x z => (by cases z; exact hs)⟩
  · exact ⟨fun t => by cases t <;> simp [isA, eu], fun x z => (by cases z)⟩
theorem asked_less {g h : DHp} {d : D} (A : Asked g d) (l : Less g h) : Asked h d := by
  rcases A with h | h | h | ⟨u, z, e, eu, oz⟩
  · exact .inl h
  · exact .inr (.inl h)
  · exact .inr (.inr (.inl h))
  · exact .inr (.inr (.inr ⟨u, z, e, l _ _ eu, oz⟩))
def RC44 (w : Str) (ks : List Tx) (k2 k : Tx) (a b : Int) (x y z : Tx) : Prop := workK w k ks k2 ∧ isRule (.tup [.str k, .int a, .int b]) = true ∧ okS x ∧ okS y ∧ x ≠ y ∧ z.length ≤ 300 ∧ okTx z
theorem rc_kind {w : Str} {ks : List Tx} {k2 k : Tx} {a b : Int} {x y z : Tx} (c : RC44 w ks k2 k a b x y z) : isKindR (.tup [.str k, .int a, .int b]) ks = true := by simp [isKindR, c.2.1, work_in c.1]
theorem tl7 {Q : DK} {E : DX} {h g : DHp} {w : Str} {ks : List Tx} {k2 k : Tx} {a b : Int} {x y z : Tx} {more : List Tx} {rw rm : Addr} {s4 s5 s6 s10 : Option D} (c : RC44 w ks k2 k a b x y z) (l : Less h g) (em : g rm = some (.lst (more.map D.str))) (hm : ∀ v ∈ more, okTx v ∧ v.length ≤ 10000) (lm : more.length ≤ 10000) (q : Q (.bl true) h) :
    t__law_refused_right_7 (endsD Q E) [some (.tup [.str k, .int a, .int b]), some (.fn w), some (.ref rw), some (.str z), s4, s5, s6, some (.ref rm), some (.str x), some (.str y), s10] g := by
  have hs := sizeLine_eq
  have hkr := rc_kind c
  obtain ⟨hw, hr, ox, oy, nxy, lz, okz⟩ := c
  have hab := rule_lo hr
  have hk := rule_kind hr
  have pk := work_pick hw
  have lx := ox.1
  have ly := oy.1
  simp only [t__law_refused_right_7, forall_const, true_implies, false_implies, implies_true, and_true, true_and, reduceCtorEq, Bool.not_true, Bool.not_false, Bool.true_xor, Bool.false_xor, Option.some.injEq, exists_eq_left', put_same, onB_bl, dSeq, dNext, dBreak, dDrop, dRet, dRetN, dIfS, dName, dgNil, dgCons, dgTup, dAsg, dPar, dPar3, dSetI, dgSub, dRaise, dVar, dC, dOp, dTest, dAnd, dOr, dNot, dAndV, dOrV, dNotV, dIf, dNil, dCons, dTup, dLst, dCall, dCB, dMt, dMt0, dInC, dIxC, dChain, dNeg, dNoPart, dPart, dSl, exE, dIsA, dCat, catchD, subE, Ex.ix, endsD, dLc, dISeq, dIRng1, dIRng2, dIEnum, dFor, dDcT, dDcK, dCallV, mStarts_str, List.getElem?_cons_zero, List.getElem?_cons_succ, List.set_cons_zero, List.set_cons_succ, onL_lst, isA_non, isA_int_int, isA_bool_int, isA_str_int, isA_tup_int, isA_lst_int, isA_int_str, isA_bool_str, isA_str_str, isA_tup_str, isA_lst_str, isA_int_tup, isA_bool_tup, isA_str_tup, isA_tup_tup, isA_lst_tup, isA_int_bl, isA_bool_bl, isA_str_bl, isA_tup_bl, isA_lst_bl, dAdd_int, dAdd_str, dAdd_tup, dAdd_ref, dSub_int, dLt_int, dLe_int, dGt_int, dGe_int, dMul_int, dMul_str, dMul_ref, dMod_int, dFdiv_int, dPow_int, dIsN_, dNotN_, isNon_int, isNon_non, dEq_str, dEq_int, dNe_str, dNe_int, dIn_sign, dIx_str, dIx_tup, dIx_scr, dIx_ref, dCut_str, dCut_tup, dCut_scr, dCut_ref, bLen_str, bLen_tup, bLen_ref, bInt_int, bInt_bl, bTup_tup, bTup_ref, bList_str, bList_tup, bList_ref, tyD_str, mAppend_ref, mExtend_ref, tyL, dSetL_ref, mJoin_ref, bMin_ref, bMax_ref, atI_0, atI_1, atI_2]
  refine ⟨by simp; omega, by simp; omega, by show (1 : Nat) ≤ sizeLine; omega, fun p1 n1 => ⟨by show (7 : Nat) ≤ sizeLine; omega, fun p2 n2 => ?_⟩⟩
  have em1 := put_old (o := .lst [.str z]) em n1
  have ez1 : put g p1 (.lst [.str z]) p1 = some (.lst [.str z]) := put_same
  have l1 := less_new (o := .lst [.str z]) l n1
  generalize put g p1 (.lst [.str z]) = g1 at em1 ez1 l1 n2
  generalize eL : [D.non, D.int 1, D.str (z ++ [97]), D.str ([98] ++ z), D.ref p1, D.str [], D.str [63, 42]] = L7
  have hL7 : ∀ d ∈ L7, d = .non ∨ d = .int 1 ∨ (∃ s, d = .str s ∧ okTx s ∧ s.length ≤ 10000) ∨ d = .ref p1 := by
    intro d hd
    rw [← eL] at hd
    simp only [List.mem_cons, List.mem_nil_iff, or_false] at hd
    have o1 : okTx (z ++ [97]) := fun c hc => by
      rcases List.mem_append.mp hc with hc | hc
      · exact okz c hc
      · simp at hc; omega
    have o2 : okTx ([98] ++ z) := fun c hc => by
      rcases List.mem_append.mp hc with hc | hc
      · simp at hc; omega
      · exact okz c hc
    rcases hd with rfl | rfl | rfl | rfl | rfl | rfl | rfl
    · exact .inl rfl
    · exact .inr (.inl rfl)
    · exact .inr (.inr (.inl ⟨_, rfl, o1, by simp; omega⟩))
    · exact .inr (.inr (.inl ⟨_, rfl, o2, by simp; omega⟩))
    · exact .inr (.inr (.inr rfl))
    · exact .inr (.inr (.inl ⟨_, rfl, by simp [okTx], by simp⟩))
    · exact .inr (.inr (.inl ⟨_, rfl, by unfold okTx; decide, by simp⟩))
  have lL7 : L7.length = 7 := by rw [← eL]; rfl
  clear eL
  have em2 := put_old (o := .lst L7) em1 n2
  have ez2 := put_old (o := .lst L7) ez1 n2
  have l2 := less_new (o := .lst L7) l1 n2
  simp only [em2, onL_lst]
  generalize put g1 p2 (.lst L7) = g2 at em2 ez2 l2
  refine ⟨by rw [List.length_map]; omega, fun p3 n3 => ?_⟩
  have ez3 := put_old (o := .lst (L7 ++ more.map D.str)) ez2 n3
  have e3 : put g2 p3 (.lst (L7 ++ more.map D.str)) p3 = some (.lst (L7 ++ more.map D.str)) := put_same
  have l3 := less_new (o := .lst (L7 ++ more.map D.str)) l2 n3
  generalize put g2 p3 (.lst (L7 ++ more.map D.str)) = g3 at ez3 e3 l3
  have hA : ∀ d ∈ L7 ++ more.map D.str, Asked g3 d := by
    intro d hd
    rcases List.mem_append.mp hd with hd | hd
    · rcases hL7 d hd with h | h | h | h
      · exact .inl h
      · exact .inr (.inl h)
      · exact .inr (.inr (.inl h))
      · exact .inr (.inr (.inr ⟨p1, z, h, ez3, okz⟩))
    · obtain ⟨v, hv, rfl⟩ := List.mem_map.mp hd
      exact .inr (.inr (.inl ⟨v, rfl, (hm v hv).1, (hm v hv).2⟩))
  generalize L7 ++ more.map D.str = L at hA e3
  refine forB_inv (fun i δ h' => (∃ t5 t10, δ = [some (.tup [.str k, .int a, .int b]), some (.fn w), some (.ref rw), some (.str z), s4, t5, s6, some (.ref rm), some (.str x), some (.str y), t10]) ∧ Less g3 h')
    ⟨⟨_, _, rfl⟩, Less.refl⟩ (fun i δ h' v => v.2 _ _ e3) ?_ ?_
  · rintro δ g4 ⟨⟨t5, t10, rfl⟩, l4⟩
    simp only [forall_const, true_implies, false_implies, implies_true, and_true, true_and, reduceCtorEq, Bool.not_true, Bool.not_false, Bool.true_xor, Bool.false_xor, Option.some.injEq, exists_eq_left', put_same, onB_bl, dSeq, dNext, dBreak, dDrop, dRet, dRetN, dIfS, dName, dgNil, dgCons, dgTup, dAsg, dPar, dPar3, dSetI, dgSub, dRaise, dVar, dC, dOp, dTest, dAnd, dOr, dNot, dAndV, dOrV, dNotV, dIf, dNil, dCons, dTup, dLst, dCall, dCB, dMt, dMt0, dInC, dIxC, dChain, dNeg, dNoPart, dPart, dSl, exE, dIsA, dCat, catchD, subE, Ex.ix, endsD, dLc, dISeq, dIRng1, dIRng2, dIEnum, dFor, dDcT, dDcK, dCallV, mStarts_str, List.getElem?_cons_zero, List.getElem?_cons_succ, List.set_cons_zero, List.set_cons_succ, onL_lst, isA_non, isA_int_int, isA_bool_int, isA_str_int, isA_tup_int, isA_lst_int, isA_int_str, isA_bool_str, isA_str_str, isA_tup_str, isA_lst_str, isA_int_tup, isA_bool_tup, isA_str_tup, isA_tup_tup, isA_lst_tup, isA_int_bl, isA_bool_bl, isA_str_bl, isA_tup_bl, isA_lst_bl, dAdd_int, dAdd_str, dAdd_tup, dAdd_ref, dSub_int, dLt_int, dLe_int, dGt_int, dGe_int, dMul_int, dMul_str, dMul_ref, dMod_int, dFdiv_int, dPow_int, dIsN_, dNotN_, isNon_int, isNon_non, dEq_str, dEq_int, dNe_str, dNe_int, dIn_sign, dIx_str, dIx_tup, dIx_scr, dIx_ref, dCut_str, dCut_tup, dCut_scr, dCut_ref, bLen_str, bLen_tup, bLen_ref, bInt_int, bInt_bl, bTup_tup, bTup_ref, bList_str, bList_tup, bList_ref, tyD_str, mAppend_ref, mExtend_ref, tyL, dSetL_ref, mJoin_ref, bMin_ref, bMax_ref, atI_0, atI_1, atI_2]
    exact ⟨h, Less.trans l3 l4, q⟩
  · rintro i d δ g4 hd ⟨⟨t5, t10, rfl⟩, l4⟩
    have A := asked_less (hA d (List.mem_of_getElem? hd)) l4
    simp only [forall_const, true_implies, false_implies, implies_true, and_true, true_and, reduceCtorEq, Bool.not_true, Bool.not_false, Bool.true_xor, Bool.false_xor, Option.some.injEq, exists_eq_left', put_same, onB_bl, dSeq, dNext, dBreak, dDrop, dRet, dRetN, dIfS, dName, dgNil, dgCons, dgTup, dAsg, dPar, dPar3, dSetI, dgSub, dRaise, dVar, dC, dOp, dTest, dAnd, dOr, dNot, dAndV, dOrV, dNotV, dIf, dNil, dCons, dTup, dLst, dCall, dCB, dMt, dMt0, dInC, dIxC, dChain, dNeg, dNoPart, dPart, dSl, exE, dIsA, dCat, catchD, subE, Ex.ix, endsD, dLc, dISeq, dIRng1, dIRng2, dIEnum, dFor, dDcT, dDcK, dCallV, mStarts_str, List.getElem?_cons_zero, List.getElem?_cons_succ, List.set_cons_zero, List.set_cons_succ, onL_lst, isA_non, isA_int_int, isA_bool_int, isA_str_int, isA_tup_int, isA_lst_int, isA_int_str, isA_bool_str, isA_str_str, isA_tup_str, isA_lst_str, isA_int_tup, isA_bool_tup, isA_str_tup, isA_tup_tup, isA_lst_tup, isA_int_bl, isA_bool_bl, isA_str_bl, isA_tup_bl, isA_lst_bl, dAdd_int, dAdd_str, dAdd_tup, dAdd_ref, dSub_int, dLt_int, dLe_int, dGt_int, dGe_int, dMul_int, dMul_str, dMul_ref, dMod_int, dFdiv_int, dPow_int, dIsN_, dNotN_, isNon_int, isNon_non, dEq_str, dEq_int, dNe_str, dNe_int, dIn_sign, dIx_str, dIx_tup, dIx_scr, dIx_ref, dCut_str, dCut_tup, dCut_scr, dCut_ref, bLen_str, bLen_tup, bLen_ref, bInt_int, bInt_bl, bTup_tup, bTup_ref, bList_str, bList_tup, bList_ref, tyD_str, mAppend_ref, mExtend_ref, tyL, dSetL_ref, mJoin_ref, bMin_ref, bMax_ref, atI_0, atI_1, atI_2]
    refine ⟨rfl, hk, okS_ok ox, hab.1, hab.2.1, hab.2.2, by omega, fun r1 m1 => ?_⟩
    refine dIn_asked (asked_less A (Less.put m1)) put_same (readW_ok (okS_ok ox)) ?_
    have l5 := less_new (o := .lst ((readW k x a.toNat b.toNat).map D.str)) l4 m1
    have A5 := asked_less A (Less.put (o := .lst ((readW k x a.toNat b.toNat).map D.str)) m1)
    generalize put g4 r1 (.lst ((readW k x a.toNat b.toNat).map D.str)) = g5 at l5 A5
    refine ⟨fun hb1 => ⟨rfl, hk, okS_ok oy, hab.1, hab.2.1, hab.2.2, by omega, fun r2 m2 => dIn_asked (asked_less A5 (Less.put m2)) put_same (readW_ok (okS_ok oy)) ?_⟩, fun hb1 => ?_⟩
    · have l6 := less_new (o := .lst ((readW k y a.toNat b.toNat).map D.str)) l5 m2
      have A6 := asked_less A5 (Less.put (o := .lst ((readW k y a.toNat b.toNat).map D.str)) m2)
      generalize put g5 r2 (.lst ((readW k y a.toNat b.toNat).map D.str)) = g6 at l6 A6
      simp only [onB_]
      refine ⟨fun hb2 => ?_, fun hb2 => ⟨⟨_, _, rfl⟩, l6⟩⟩
      simp only [pk]
      obtain ⟨ap, al⟩ := asked_plain A6
      refine as_reading hkr ox oy ap al nxy (fun z' sh => ?_) ⟨by decide, ?_⟩
      · obtain ⟨rfl, _, h1, h2⟩ := sh
        simp [inB, h2] at hb2
      · simp only [Nat.reduceBEq, Bool.false_or]
        exact ⟨fun z => by simp at z, fun _ => ⟨⟨_, _, rfl⟩, l6⟩⟩
    · simp only [pk, forall_const, true_implies, false_implies, implies_true, and_true, true_and, reduceCtorEq, Bool.not_true, Bool.not_false, Bool.true_xor, Bool.false_xor, Option.some.injEq, exists_eq_left', put_same, onB_bl, dSeq, dNext, dBreak, dDrop, dRet, dRetN, dIfS, dName, dgNil, dgCons, dgTup, dAsg, dPar, dPar3, dSetI, dgSub, dRaise, dVar, dC, dOp, dTest, dAnd, dOr, dNot, dAndV, dOrV, dNotV, dIf, dNil, dCons, dTup, dLst, dCall, dCB, dMt, dMt0, dInC, dIxC, dChain, dNeg, dNoPart, dPart, dSl, exE, dIsA, dCat, catchD, subE, Ex.ix, endsD, dLc, dISeq, dIRng1, dIRng2, dIEnum, dFor, dDcT, dDcK, dCallV, mStarts_str, List.getElem?_cons_zero, List.getElem?_cons_succ, List.set_cons_zero, List.set_cons_succ, onL_lst, isA_non, isA_int_int, isA_bool_int, isA_str_int, isA_tup_int, isA_lst_int, isA_int_str, isA_bool_str, isA_str_str, isA_tup_str, isA_lst_str, isA_int_tup, isA_bool_tup, isA_str_tup, isA_tup_tup, isA_lst_tup, isA_int_bl, isA_bool_bl, isA_str_bl, isA_tup_bl, isA_lst_bl, dAdd_int, dAdd_str, dAdd_tup, dAdd_ref, dSub_int, dLt_int, dLe_int, dGt_int, dGe_int, dMul_int, dMul_str, dMul_ref, dMod_int, dFdiv_int, dPow_int, dIsN_, dNotN_, isNon_int, isNon_non, dEq_str, dEq_int, dNe_str, dNe_int, dIn_sign, dIx_str, dIx_tup, dIx_scr, dIx_ref, dCut_str, dCut_tup, dCut_scr, dCut_ref, bLen_str, bLen_tup, bLen_ref, bInt_int, bInt_bl, bTup_tup, bTup_ref, bList_str, bList_tup, bList_ref, tyD_str, mAppend_ref, mExtend_ref, tyL, dSetL_ref, mJoin_ref, bMin_ref, bMax_ref, atI_0, atI_1, atI_2]
      obtain ⟨ap, al⟩ := asked_plain A5
      refine as_reading hkr ox oy ap al nxy (fun z' sh => ?_) ⟨by decide, ?_⟩
      · obtain ⟨rfl, _, h1, h2⟩ := sh
        simp [inB, h1] at hb1
      · simp only [Nat.reduceBEq, Bool.false_or]
        exact ⟨fun z => by simp at z, fun _ => ⟨⟨_, _, rfl⟩, l5⟩⟩
theorem cutD_mem {α : Type} {xs : List α} {lo hi : Option Int} {d : α} (h : d ∈ cutD xs lo hi) : d ∈ xs := List.mem_of_mem_drop (List.mem_of_mem_take h)
theorem cutD_len {α : Type} (xs : List α) (lo hi : Option Int) : (cutD xs lo hi).length ≤ xs.length := by
  unfold cutD
  rw [List.length_take, List.length_drop]
  omega
theorem readW_short {k x : Tx} {a b : Nat} (hx : x.length ≤ 20) : ∀ w ∈ readW k x a b, w.length ≤ 10000 := by
  intro w hw
  unfold readW at hw
  rw [inOrder_mem] at hw
  obtain ⟨i, m, _, h5, rfl⟩ := tearsL_mem hw
  have := tearW_len (k := k) h5 (.inr True.intro)
  omega
theorem tl6 {Q : DK} {E : DX} {h g : DHp} {w : Str} {ks : List Tx} {k2 k : Tx} {a b bw : Int} {x y z : Tx} {rw : Addr} {s4 s5 s7 s10 : Option D} (c : RC44 w ks k2 k a b x y z) (l : Less h g) (b0 : 0 ≤ bw) (b1 : bw ≤ 3) (q : Q (.bl true) h) :
    t__law_refused_right_6 (endsD Q E) [some (.tup [.str k, .int a, .int b]), some (.fn w), some (.ref rw), some (.str z), s4, s5, some (.tup [.str k, .int 0, .int bw]), s7, some (.str x), some (.str y), s10] g := by
  have hs := sizeLine_eq
  have hk := rule_kind c.2.1
  have ox := c.2.2.1
  have oy := c.2.2.2.1
  have lx := ox.1
  have ly := oy.1
  have t7 : ∀ (rm : Addr) (more : List Tx) (g : DHp), Less h g → g rm = some (.lst (more.map D.str)) → (∀ v ∈ more, okTx v ∧ v.length ≤ 10000) → more.length ≤ 10000 → t__law_refused_right_7 (endsD Q E) [some (.tup [.str k, .int a, .int b]), some (.fn w), some (.ref rw), some (.str z), s4, s5, some (.tup [.str k, .int 0, .int bw]), some (.ref rm), some (.str x), some (.str y), s10] g := fun rm more g l em hm lm => tl7 c l em hm lm q
  show (dSeq _ t__law_refused_right_7) (endsD Q E) _ g
  generalize t__law_refused_right_7 = t7' at t7
  simp only [forall_const, true_implies, false_implies, implies_true, and_true, true_and, reduceCtorEq, Bool.not_true, Bool.not_false, Bool.true_xor, Bool.false_xor, Option.some.injEq, exists_eq_left', put_same, onB_bl, dSeq, dNext, dBreak, dDrop, dRet, dRetN, dIfS, dName, dgNil, dgCons, dgTup, dAsg, dPar, dPar3, dSetI, dgSub, dRaise, dVar, dC, dOp, dTest, dAnd, dOr, dNot, dAndV, dOrV, dNotV, dIf, dNil, dCons, dTup, dLst, dCall, dCB, dMt, dMt0, dInC, dIxC, dChain, dNeg, dNoPart, dPart, dSl, exE, dIsA, dCat, catchD, subE, Ex.ix, endsD, dLc, dISeq, dIRng1, dIRng2, dIEnum, dFor, dDcT, dDcK, dCallV, mStarts_str, List.getElem?_cons_zero, List.getElem?_cons_succ, List.set_cons_zero, List.set_cons_succ, onL_lst, isA_non, isA_int_int, isA_bool_int, isA_str_int, isA_tup_int, isA_lst_int, isA_int_str, isA_bool_str, isA_str_str, isA_tup_str, isA_lst_str, isA_int_tup, isA_bool_tup, isA_str_tup, isA_tup_tup, isA_lst_tup, isA_int_bl, isA_bool_bl, isA_str_bl, isA_tup_bl, isA_lst_bl, dAdd_int, dAdd_str, dAdd_tup, dAdd_ref, dSub_int, dLt_int, dLe_int, dGt_int, dGe_int, dMul_int, dMul_str, dMul_ref, dMod_int, dFdiv_int, dPow_int, dIsN_, dNotN_, isNon_int, isNon_non, dEq_str, dEq_int, dNe_str, dNe_int, dIn_sign, dIx_str, dIx_tup, dIx_scr, dIx_ref, dCut_str, dCut_tup, dCut_scr, dCut_ref, bLen_str, bLen_tup, bLen_ref, bInt_int, bInt_bl, bTup_tup, bTup_ref, bList_str, bList_tup, bList_ref, tyD_str, mAppend_ref, mExtend_ref, tyL, dSetL_ref, mJoin_ref, bMin_ref, bMax_ref, atI_0, atI_1, atI_2]
  have fx := readW_few (k := k) (x := x) (a := Int.toNat 0) (b := bw.toNat) (by omega) (by omega)
  have fy := readW_few (k := k) (x := y) (a := Int.toNat 0) (b := bw.toNat) (by omega) (by omega)
  have okx := readW_ok (k := k) (a := Int.toNat 0) (b := bw.toNat) (okS_ok ox)
  have oky := readW_ok (k := k) (a := Int.toNat 0) (b := bw.toNat) (okS_ok oy)
  have shx := readW_short (k := k) (a := Int.toNat 0) (b := bw.toNat) lx
  have shy := readW_short (k := k) (a := Int.toNat 0) (b := bw.toNat) ly
  refine ⟨rfl, hk, okS_ok ox, by omega, by omega, by omega, by omega, fun r1 n1 => ?_⟩
  have l1 := less_new (o := .lst ((readW k x (Int.toNat 0) bw.toNat).map D.str)) l n1
  have er : put g r1 (.lst ((readW k x (Int.toNat 0) bw.toNat).map D.str)) r1 = some (.lst ((readW k x (Int.toNat 0) bw.toNat).map D.str)) := put_same
  generalize put g r1 (.lst ((readW k x (Int.toNat 0) bw.toNat).map D.str)) = g1 at l1 er
  generalize readW k x (Int.toNat 0) bw.toNat = wx at fx okx shx er
  simp only [dCut_ref, er, onL_lst, cutD_map]
  intro c1 m1
  have e1 : put g1 c1 (.lst ((cutD wx none (some 9)).map D.str)) c1 = some (.lst ((cutD wx none (some 9)).map D.str)) := put_same
  have l2 := less_new (o := .lst ((cutD wx none (some 9)).map D.str)) l1 m1
  generalize put g1 c1 (.lst ((cutD wx none (some 9)).map D.str)) = g2 at e1 l2
  refine ⟨rfl, hk, okS_ok oy, by omega, by omega, by omega, by omega, fun r2 n2 => ?_⟩
  have e1 := put_old (o := .lst ((readW k y (Int.toNat 0) bw.toNat).map D.str)) e1 n2
  have l3 := less_new (o := .lst ((readW k y (Int.toNat 0) bw.toNat).map D.str)) l2 n2
  have er : put g2 r2 (.lst ((readW k y (Int.toNat 0) bw.toNat).map D.str)) r2 = some (.lst ((readW k y (Int.toNat 0) bw.toNat).map D.str)) := put_same
  generalize put g2 r2 (.lst ((readW k y (Int.toNat 0) bw.toNat).map D.str)) = g3 at e1 l3 er
  generalize readW k y (Int.toNat 0) bw.toNat = wy at fy oky shy er
  simp only [dCut_ref, er, onL_lst, cutD_map]
  intro c2 m2
  have e1 := put_old (o := .lst ((cutD wy (some (-9)) none).map D.str)) e1 m2
  have l4 := less_new (o := .lst ((cutD wy (some (-9)) none).map D.str)) l3 m2
  have e2 : put g3 c2 (.lst ((cutD wy (some (-9)) none).map D.str)) c2 = some (.lst ((cutD wy (some (-9)) none).map D.str)) := put_same
  simp only [dAdd_ref, e1, e2, onL_lst]
  generalize put g3 c2 (.lst ((cutD wy (some (-9)) none).map D.str)) = g4 at e1 e2 l4
  have k1 := cutD_len wx none (some 9)
  have k2 := cutD_len wy (some (-9)) none
  refine ⟨by rw [List.length_map, List.length_map]; omega, fun r3 n3 => ?_⟩
  refine t7 _ (cutD wx none (some 9) ++ cutD wy (some (-9)) none) _ (less_new l4 n3) (by rw [put_same, List.map_append]) (fun v hv => ?_) (by rw [List.length_append]; omega)
  rcases List.mem_append.mp hv with hv | hv
  · exact ⟨okx v (cutD_mem hv), shx v (cutD_mem hv)⟩
  · exact ⟨oky v (cutD_mem hv), shy v (cutD_mem hv)⟩
theorem tl5 {Q : DK} {E : DX} {h g : DHp} {w : Str} {ks : List Tx} {k2 k : Tx} {a b : Int} {x y z : Tx} {rw : Addr} {s4 s5 s6 s7 s10 : Option D} (c : RC44 w ks k2 k a b x y z) (l : Less h g) (q : Q (.bl true) h) :
    t__law_refused_right_5 (endsD Q E) [some (.tup [.str k, .int a, .int b]), some (.fn w), some (.ref rw), some (.str z), s4, s5, s6, s7, some (.str x), some (.str y), s10] g := by
  have hs := sizeLine_eq
  have t6 : ∀ bw : Int, 0 ≤ bw → bw ≤ 3 → t__law_refused_right_6 (endsD Q E) [some (.tup [.str k, .int a, .int b]), some (.fn w), some (.ref rw), some (.str z), s4, s5, some (.tup [.str k, .int 0, .int bw]), s7, some (.str x), some (.str y), s10] g := fun bw b0 b1 => tl6 c l b0 b1 q
  show (dSeq _ t__law_refused_right_6) (endsD Q E) _ g
  generalize t__law_refused_right_6 = t6' at t6
  simp only [forall_const, true_implies, false_implies, implies_true, and_true, true_and, reduceCtorEq, Bool.not_true, Bool.not_false, Bool.true_xor, Bool.false_xor, Option.some.injEq, exists_eq_left', put_same, onB_bl, dSeq, dNext, dBreak, dDrop, dRet, dRetN, dIfS, dName, dgNil, dgCons, dgTup, dAsg, dPar, dPar3, dSetI, dgSub, dRaise, dVar, dC, dOp, dTest, dAnd, dOr, dNot, dAndV, dOrV, dNotV, dIf, dNil, dCons, dTup, dLst, dCall, dCB, dMt, dMt0, dInC, dIxC, dChain, dNeg, dNoPart, dPart, dSl, exE, dIsA, dCat, catchD, subE, Ex.ix, endsD, dLc, dISeq, dIRng1, dIRng2, dIEnum, dFor, dDcT, dDcK, dCallV, mStarts_str, List.getElem?_cons_zero, List.getElem?_cons_succ, List.set_cons_zero, List.set_cons_succ, onL_lst, isA_non, isA_int_int, isA_bool_int, isA_str_int, isA_tup_int, isA_lst_int, isA_int_str, isA_bool_str, isA_str_str, isA_tup_str, isA_lst_str, isA_int_tup, isA_bool_tup, isA_str_tup, isA_tup_tup, isA_lst_tup, isA_int_bl, isA_bool_bl, isA_str_bl, isA_tup_bl, isA_lst_bl, dAdd_int, dAdd_str, dAdd_tup, dAdd_ref, dSub_int, dLt_int, dLe_int, dGt_int, dGe_int, dMul_int, dMul_str, dMul_ref, dMod_int, dFdiv_int, dPow_int, dIsN_, dNotN_, isNon_int, isNon_non, dEq_str, dEq_int, dNe_str, dNe_int, dIn_sign, dIx_str, dIx_tup, dIx_scr, dIx_ref, dCut_str, dCut_tup, dCut_scr, dCut_ref, bLen_str, bLen_tup, bLen_ref, bInt_int, bInt_bl, bTup_tup, bTup_ref, bList_str, bList_tup, bList_ref, tyD_str, mAppend_ref, mExtend_ref, tyL, dSetL_ref, mJoin_ref, bMin_ref, bMax_ref, atI_0, atI_1, atI_2]
  exact ⟨fun _ => ⟨by show (3 : Nat) ≤ sizeLine; omega, t6 2 (by omega) (by omega)⟩, fun _ => ⟨by show (3 : Nat) ≤ sizeLine; omega, t6 3 (by omega) (by omega)⟩⟩
theorem tl4 {Q : DK} {E : DX} {h g : DHp} {w : Str} {ks : List Tx} {k2 k : Tx} {a b : Int} {x y z : Tx} {rw : Addr} {s4 s5 s6 s7 s10 : Option D} (c : RC44 w ks k2 k a b x y z) (l : Less h g) (q : Q (.bl true) h) :
    t__law_refused_right_4 (endsD Q E) [some (.tup [.str k, .int a, .int b]), some (.fn w), some (.ref rw), some (.str z), s4, s5, s6, s7, some (.str x), some (.str y), s10] g := by
  have hs := sizeLine_eq
  have t5 : ∀ s5 g, Less h g → t__law_refused_right_5 (endsD Q E) [some (.tup [.str k, .int a, .int b]), some (.fn w), some (.ref rw), some (.str z), s4, s5, s6, s7, some (.str x), some (.str y), s10] g := fun s5 g l => tl5 c l q
  show (dSeq _ t__law_refused_right_5) (endsD Q E) _ g
  generalize t__law_refused_right_5 = t5' at t5
  have hkr := rc_kind c
  obtain ⟨hw, hr, ox, oy, nxy, lz, okz⟩ := c
  have pk := work_pick hw
  have lx := ox.1
  simp only [forall_const, true_implies, false_implies, implies_true, and_true, true_and, reduceCtorEq, Bool.not_true, Bool.not_false, Bool.true_xor, Bool.false_xor, Option.some.injEq, exists_eq_left', put_same, onB_bl, dSeq, dNext, dBreak, dDrop, dRet, dRetN, dIfS, dName, dgNil, dgCons, dgTup, dAsg, dPar, dPar3, dSetI, dgSub, dRaise, dVar, dC, dOp, dTest, dAnd, dOr, dNot, dAndV, dOrV, dNotV, dIf, dNil, dCons, dTup, dLst, dCall, dCB, dMt, dMt0, dInC, dIxC, dChain, dNeg, dNoPart, dPart, dSl, exE, dIsA, dCat, catchD, subE, Ex.ix, endsD, dLc, dISeq, dIRng1, dIRng2, dIEnum, dFor, dDcT, dDcK, dCallV, mStarts_str, List.getElem?_cons_zero, List.getElem?_cons_succ, List.set_cons_zero, List.set_cons_succ, onL_lst, isA_non, isA_int_int, isA_bool_int, isA_str_int, isA_tup_int, isA_lst_int, isA_int_str, isA_bool_str, isA_str_str, isA_tup_str, isA_lst_str, isA_int_tup, isA_bool_tup, isA_str_tup, isA_tup_tup, isA_lst_tup, isA_int_bl, isA_bool_bl, isA_str_bl, isA_tup_bl, isA_lst_bl, dAdd_int, dAdd_str, dAdd_tup, dAdd_ref, dSub_int, dLt_int, dLe_int, dGt_int, dGe_int, dMul_int, dMul_str, dMul_ref, dMod_int, dFdiv_int, dPow_int, dIsN_, dNotN_, isNon_int, isNon_non, dEq_str, dEq_int, dNe_str, dNe_int, dIn_sign, dIx_str, dIx_tup, dIx_scr, dIx_ref, dCut_str, dCut_tup, dCut_scr, dCut_ref, bLen_str, bLen_tup, bLen_ref, bInt_int, bInt_bl, bTup_tup, bTup_ref, bList_str, bList_tup, bList_ref, tyD_str, mAppend_ref, mExtend_ref, tyL, dSetL_ref, mJoin_ref, bMin_ref, bMax_ref, atI_0, atI_1, atI_2]
  refine ⟨by simp; omega, by show (5 : Nat) ≤ sizeLine; omega, fun p1 n1 => ?_⟩
  generalize eL : [D.str z, D.non, D.str [], D.str [63, 42], D.str (z ++ [97])] = L
  have hA : ∀ g d, d ∈ L → Asked g d := by
    intro g d hd
    rw [← eL] at hd
    simp only [List.mem_cons, List.mem_nil_iff, or_false] at hd
    have o1 : okTx (z ++ [97]) := fun c hc => by
      rcases List.mem_append.mp hc with hc | hc
      · exact okz c hc
      · simp at hc; omega
    rcases hd with rfl | rfl | rfl | rfl | rfl
    · exact .inr (.inr (.inl ⟨_, rfl, okz, by omega⟩))
    · exact .inl rfl
    · exact .inr (.inr (.inl ⟨_, rfl, by simp [okTx], by simp⟩))
    · exact .inr (.inr (.inl ⟨_, rfl, by unfold okTx; decide, by simp⟩))
    · exact .inr (.inr (.inl ⟨_, rfl, o1, by simp; omega⟩))
  clear eL
  have e1 : put g p1 (.lst L) p1 = some (.lst L) := put_same
  have l1 := less_new (o := .lst L) l n1
  generalize put g p1 (.lst L) = g1 at e1 l1
  refine forB_inv (fun i δ h' => (∃ t5, δ = [some (.tup [.str k, .int a, .int b]), some (.fn w), some (.ref rw), some (.str z), s4, t5, s6, s7, some (.str x), some (.str y), s10]) ∧ Less g1 h')
    ⟨⟨_, rfl⟩, Less.refl⟩ (fun i δ h' v => v.2 _ _ e1) ?_ ?_
  · rintro δ g4 ⟨⟨t5', rfl⟩, l4⟩
    exact t5 _ _ (Less.trans l1 l4)
  · rintro i d δ g4 hd ⟨⟨t5', rfl⟩, l4⟩
    obtain ⟨ap, al⟩ := asked_plain (hA g4 d (List.mem_of_getElem? hd))
    simp only [forall_const, true_implies, false_implies, implies_true, and_true, true_and, reduceCtorEq, Bool.not_true, Bool.not_false, Bool.true_xor, Bool.false_xor, Option.some.injEq, exists_eq_left', put_same, onB_bl, dSeq, dNext, dBreak, dDrop, dRet, dRetN, dIfS, dName, dgNil, dgCons, dgTup, dAsg, dPar, dPar3, dSetI, dgSub, dRaise, dVar, dC, dOp, dTest, dAnd, dOr, dNot, dAndV, dOrV, dNotV, dIf, dNil, dCons, dTup, dLst, dCall, dCB, dMt, dMt0, dInC, dIxC, dChain, dNeg, dNoPart, dPart, dSl, exE, dIsA, dCat, catchD, subE, Ex.ix, endsD, dLc, dISeq, dIRng1, dIRng2, dIEnum, dFor, dDcT, dDcK, dCallV, mStarts_str, List.getElem?_cons_zero, List.getElem?_cons_succ, List.set_cons_zero, List.set_cons_succ, onL_lst, isA_non, isA_int_int, isA_bool_int, isA_str_int, isA_tup_int, isA_lst_int, isA_int_str, isA_bool_str, isA_str_str, isA_tup_str, isA_lst_str, isA_int_tup, isA_bool_tup, isA_str_tup, isA_tup_tup, isA_lst_tup, isA_int_bl, isA_bool_bl, isA_str_bl, isA_tup_bl, isA_lst_bl, dAdd_int, dAdd_str, dAdd_tup, dAdd_ref, dSub_int, dLt_int, dLe_int, dGt_int, dGe_int, dMul_int, dMul_str, dMul_ref, dMod_int, dFdiv_int, dPow_int, dIsN_, dNotN_, isNon_int, isNon_non, dEq_str, dEq_int, dNe_str, dNe_int, dIn_sign, dIx_str, dIx_tup, dIx_scr, dIx_ref, dCut_str, dCut_tup, dCut_scr, dCut_ref, bLen_str, bLen_tup, bLen_ref, bInt_int, bInt_bl, bTup_tup, bTup_ref, bList_str, bList_tup, bList_ref, tyD_str, mAppend_ref, mExtend_ref, tyL, dSetL_ref, mJoin_ref, bMin_ref, bMax_ref, atI_0, atI_1, atI_2, pk]
    refine as_word hkr plain_s plain_s ap (fun _ z => by cases z; omega) (fun _ z => by cases z; omega) al (fun u v t => ?_) ⟨by decide, ?_⟩
    · obtain ⟨e1, e2, _, _, ne⟩ := t
      cases e1; cases e2
      exact ne rfl
    · simp only [Nat.reduceBEq, Bool.false_or]
      exact ⟨fun z => by simp at z, fun _ => ⟨⟨_, rfl⟩, l4⟩⟩
theorem tl3 {Q : DK} {E : DX} {h g : DHp} {w : Str} {ks : List Tx} {k2 k : Tx} {a b : Int} {x y z : Tx} {rw : Addr} {s4 s5 s6 s7 s10 : Option D} (c : RC44 w ks k2 k a b x y z) (l : Less h g) (q : Q (.bl true) h) :
    t__law_refused_right_3 (endsD Q E) [some (.tup [.str k, .int a, .int b]), some (.fn w), some (.ref rw), some (.str z), s4, s5, s6, s7, some (.str x), some (.str y), s10] g := by
  have hs := sizeLine_eq
  have t5 : ∀ s5 g, Less h g → t__law_refused_right_4 (endsD Q E) [some (.tup [.str k, .int a, .int b]), some (.fn w), some (.ref rw), some (.str z), s4, s5, s6, s7, some (.str x), some (.str y), s10] g := fun s5 g l => tl4 c l q
  show (dSeq _ t__law_refused_right_4) (endsD Q E) _ g
  generalize t__law_refused_right_4 = t5' at t5
  have hkr := rc_kind c
  obtain ⟨hw, hr, ox, oy, nxy, lz, okz⟩ := c
  have pk := work_pick hw
  have lx := ox.1
  simp only [forall_const, true_implies, false_implies, implies_true, and_true, true_and, reduceCtorEq, Bool.not_true, Bool.not_false, Bool.true_xor, Bool.false_xor, Option.some.injEq, exists_eq_left', put_same, onB_bl, dSeq, dNext, dBreak, dDrop, dRet, dRetN, dIfS, dName, dgNil, dgCons, dgTup, dAsg, dPar, dPar3, dSetI, dgSub, dRaise, dVar, dC, dOp, dTest, dAnd, dOr, dNot, dAndV, dOrV, dNotV, dIf, dNil, dCons, dTup, dLst, dCall, dCB, dMt, dMt0, dInC, dIxC, dChain, dNeg, dNoPart, dPart, dSl, exE, dIsA, dCat, catchD, subE, Ex.ix, endsD, dLc, dISeq, dIRng1, dIRng2, dIEnum, dFor, dDcT, dDcK, dCallV, mStarts_str, List.getElem?_cons_zero, List.getElem?_cons_succ, List.set_cons_zero, List.set_cons_succ, onL_lst, isA_non, isA_int_int, isA_bool_int, isA_str_int, isA_tup_int, isA_lst_int, isA_int_str, isA_bool_str, isA_str_str, isA_tup_str, isA_lst_str, isA_int_tup, isA_bool_tup, isA_str_tup, isA_tup_tup, isA_lst_tup, isA_int_bl, isA_bool_bl, isA_str_bl, isA_tup_bl, isA_lst_bl, dAdd_int, dAdd_str, dAdd_tup, dAdd_ref, dSub_int, dLt_int, dLe_int, dGt_int, dGe_int, dMul_int, dMul_str, dMul_ref, dMod_int, dFdiv_int, dPow_int, dIsN_, dNotN_, isNon_int, isNon_non, dEq_str, dEq_int, dNe_str, dNe_int, dIn_sign, dIx_str, dIx_tup, dIx_scr, dIx_ref, dCut_str, dCut_tup, dCut_scr, dCut_ref, bLen_str, bLen_tup, bLen_ref, bInt_int, bInt_bl, bTup_tup, bTup_ref, bList_str, bList_tup, bList_ref, tyD_str, mAppend_ref, mExtend_ref, tyL, dSetL_ref, mJoin_ref, bMin_ref, bMax_ref, atI_0, atI_1, atI_2]
  refine ⟨⟨by decide, by decide, by show (1 : Nat) * 201 ≤ _; omega⟩, by show (1 : Nat) ≤ sizeLine; omega, fun p0 n0 => ⟨by show (9 : Nat) ≤ sizeLine; omega, fun p1 n1 => ?_⟩⟩
  have e0 : put g p0 (.lst [.str [97]]) p0 = some (.lst [.str [97]]) := put_same
  have l0 := less_new (o := .lst [.str [97]]) l n0
  generalize put g p0 (.lst [.str [97]]) = g0 at e0 l0 n1
  have hT : ∀ g d, g p0 = some (.lst [.str [97]]) → d ∈ oddT p0 → Plain d g ∧ (∀ x, d = .str x → x.length ≤ 10000) ∧ isText d SMALL = false := fun g d e hd => odd_t e hd
  generalize eL : [D.non, D.int 1, D.str [65], D.str [97, 63], D.str (repD (Int.toNat 201) [97]), D.ref p0, D.str [97, 123], D.str [126], D.str [49]] = L
  have eL2 : oddT p0 = L := eL
  rw [eL2] at hT
  clear eL eL2
  have e0 := put_old (o := .lst L) e0 n1
  have e1 : put g0 p1 (.lst L) p1 = some (.lst L) := put_same
  have l1 := less_new (o := .lst L) l0 n1
  generalize put g0 p1 (.lst L) = g1 at e0 e1 l1
  refine forB_inv (fun i δ h' => (∃ t5, δ = [some (.tup [.str k, .int a, .int b]), some (.fn w), some (.ref rw), some (.str z), s4, t5, s6, s7, some (.str x), some (.str y), s10]) ∧ Less g1 h')
    ⟨⟨_, rfl⟩, Less.refl⟩ (fun i δ h' v => v.2 _ _ e1) ?_ ?_
  · rintro δ g4 ⟨⟨t5', rfl⟩, l4⟩
    exact t5 _ _ (Less.trans l1 l4)
  · rintro i d δ g4 hd ⟨⟨t5', rfl⟩, l4⟩
    obtain ⟨ap, al, at_⟩ := hT g4 d (l4 _ _ e0) (List.mem_of_getElem? hd)
    simp only [forall_const, true_implies, false_implies, implies_true, and_true, true_and, reduceCtorEq, Bool.not_true, Bool.not_false, Bool.true_xor, Bool.false_xor, Option.some.injEq, exists_eq_left', put_same, onB_bl, dSeq, dNext, dBreak, dDrop, dRet, dRetN, dIfS, dName, dgNil, dgCons, dgTup, dAsg, dPar, dPar3, dSetI, dgSub, dRaise, dVar, dC, dOp, dTest, dAnd, dOr, dNot, dAndV, dOrV, dNotV, dIf, dNil, dCons, dTup, dLst, dCall, dCB, dMt, dMt0, dInC, dIxC, dChain, dNeg, dNoPart, dPart, dSl, exE, dIsA, dCat, catchD, subE, Ex.ix, endsD, dLc, dISeq, dIRng1, dIRng2, dIEnum, dFor, dDcT, dDcK, dCallV, mStarts_str, List.getElem?_cons_zero, List.getElem?_cons_succ, List.set_cons_zero, List.set_cons_succ, onL_lst, isA_non, isA_int_int, isA_bool_int, isA_str_int, isA_tup_int, isA_lst_int, isA_int_str, isA_bool_str, isA_str_str, isA_tup_str, isA_lst_str, isA_int_tup, isA_bool_tup, isA_str_tup, isA_tup_tup, isA_lst_tup, isA_int_bl, isA_bool_bl, isA_str_bl, isA_tup_bl, isA_lst_bl, dAdd_int, dAdd_str, dAdd_tup, dAdd_ref, dSub_int, dLt_int, dLe_int, dGt_int, dGe_int, dMul_int, dMul_str, dMul_ref, dMod_int, dFdiv_int, dPow_int, dIsN_, dNotN_, isNon_int, isNon_non, dEq_str, dEq_int, dNe_str, dNe_int, dIn_sign, dIx_str, dIx_tup, dIx_scr, dIx_ref, dCut_str, dCut_tup, dCut_scr, dCut_ref, bLen_str, bLen_tup, bLen_ref, bInt_int, bInt_bl, bTup_tup, bTup_ref, bList_str, bList_tup, bList_ref, tyD_str, mAppend_ref, mExtend_ref, tyL, dSetL_ref, mJoin_ref, bMin_ref, bMax_ref, atI_0, atI_1, atI_2, pk]
    refine as_word hkr ap plain_s plain_n al (fun _ z => by cases z; omega) (fun _ z => by cases z) (fun u v t => ?_) ⟨by decide, ?_⟩
    · rw [t.2.2.1] at at_; cases at_
    · simp only [Nat.reduceBEq, Bool.false_or]
      refine ⟨fun z => by simp at z, fun _ => ?_⟩
      refine as_word hkr plain_s ap plain_n (fun _ z => by cases z; omega) al (fun _ z => by cases z) (fun u v t => ?_) ⟨by decide, ?_⟩
      · rw [t.2.2.2.1] at at_; cases at_
      · simp only [Nat.reduceBEq, Bool.false_or]
        exact ⟨fun z => by simp at z, fun _ => ⟨⟨_, rfl⟩, l4⟩⟩
theorem tl2 {Q : DK} {E : DX} {h g : DHp} {w : Str} {ks : List Tx} {k2 k : Tx} {a b : Int} {x y z : Tx} {rw r4 : Addr} {s5 s6 s7 s10 : Option D} {O : List D} (c : RC44 w ks k2 k a b x y z) (l : Less h g) (e4 : g r4 = some (.lst O)) (eO : O ++ [.non, .tup [.str k, .int 1], .tup [.str kC, .int 0, .int 1], .tup [.str k, .int 2, .int 1], .str kO, .tup []] = oddK k) (lO : O.length ≤ 2) (q : Q (.bl true) h) :
    t__law_refused_right_2 (endsD Q E) [some (.tup [.str k, .int a, .int b]), some (.fn w), some (.ref rw), some (.str z), some (.ref r4), s5, s6, s7, some (.str x), some (.str y), s10] g := by
  have hs := sizeLine_eq
  have t5 : ∀ s5 g, Less h g → t__law_refused_right_3 (endsD Q E) [some (.tup [.str k, .int a, .int b]), some (.fn w), some (.ref rw), some (.str z), some (.ref r4), s5, s6, s7, some (.str x), some (.str y), s10] g := fun s5 g l => tl3 c l q
  show (dSeq _ t__law_refused_right_3) (endsD Q E) _ g
  generalize t__law_refused_right_3 = t5' at t5
  have hkr := rc_kind c
  obtain ⟨hw, hr, ox, oy, nxy, lz, okz⟩ := c
  have pk := work_pick hw
  simp only [forall_const, true_implies, false_implies, implies_true, and_true, true_and, reduceCtorEq, Bool.not_true, Bool.not_false, Bool.true_xor, Bool.false_xor, Option.some.injEq, exists_eq_left', put_same, onB_bl, dSeq, dNext, dBreak, dDrop, dRet, dRetN, dIfS, dName, dgNil, dgCons, dgTup, dAsg, dPar, dPar3, dSetI, dgSub, dRaise, dVar, dC, dOp, dTest, dAnd, dOr, dNot, dAndV, dOrV, dNotV, dIf, dNil, dCons, dTup, dLst, dCall, dCB, dMt, dMt0, dInC, dIxC, dChain, dNeg, dNoPart, dPart, dSl, exE, dIsA, dCat, catchD, subE, Ex.ix, endsD, dLc, dISeq, dIRng1, dIRng2, dIEnum, dFor, dDcT, dDcK, dCallV, mStarts_str, List.getElem?_cons_zero, List.getElem?_cons_succ, List.set_cons_zero, List.set_cons_succ, onL_lst, isA_non, isA_int_int, isA_bool_int, isA_str_int, isA_tup_int, isA_lst_int, isA_int_str, isA_bool_str, isA_str_str, isA_tup_str, isA_lst_str, isA_int_tup, isA_bool_tup, isA_str_tup, isA_tup_tup, isA_lst_tup, isA_int_bl, isA_bool_bl, isA_str_bl, isA_tup_bl, isA_lst_bl, dAdd_int, dAdd_str, dAdd_tup, dAdd_ref, dSub_int, dLt_int, dLe_int, dGt_int, dGe_int, dMul_int, dMul_str, dMul_ref, dMod_int, dFdiv_int, dPow_int, dIsN_, dNotN_, isNon_int, isNon_non, dEq_str, dEq_int, dNe_str, dNe_int, dIn_sign, dIx_str, dIx_tup, dIx_scr, dIx_ref, dCut_str, dCut_tup, dCut_scr, dCut_ref, bLen_str, bLen_tup, bLen_ref, bInt_int, bInt_bl, bTup_tup, bTup_ref, bList_str, bList_tup, bList_ref, tyD_str, mAppend_ref, mExtend_ref, tyL, dSetL_ref, mJoin_ref, bMin_ref, bMax_ref, atI_0, atI_1, atI_2]
  refine ⟨by show (2 : Nat) ≤ sizeLine; omega, by show (3 : Nat) ≤ sizeLine; omega, by show (3 : Nat) ≤ sizeLine; omega, by show (0 : Nat) ≤ sizeLine; omega, by show (6 : Nat) ≤ sizeLine; omega, fun p1 n1 => ?_⟩
  simp only [put_old e4 n1, onL_lst]
  refine ⟨by simp; omega, fun p2 n2 => ?_⟩
  have l1 := less_new (o := .lst [.non, .tup [.str k, .int 1], .tup [.str kC, .int 0, .int 1], .tup [.str k, .int 2, .int 1], .str kO, .tup []]) l n1
  generalize put g p1 (.lst [.non, .tup [.str k, .int 1], .tup [.str kC, .int 0, .int 1], .tup [.str k, .int 2, .int 1], .str kO, .tup []]) = g1 at l1 n2
  rw [eO]
  have e2 : put g1 p2 (.lst (oddK k)) p2 = some (.lst (oddK k)) := put_same
  have l2 := less_new (o := .lst (oddK k)) l1 n2
  generalize put g1 p2 (.lst (oddK k)) = g2 at e2 l2
  refine forB_inv (fun i δ h' => (∃ t5, δ = [some (.tup [.str k, .int a, .int b]), some (.fn w), some (.ref rw), some (.str z), some (.ref r4), t5, s6, s7, some (.str x), some (.str y), s10]) ∧ Less g2 h')
    ⟨⟨_, rfl⟩, Less.refl⟩ (fun i δ h' v => v.2 _ _ e2) ?_ ?_
  · rintro δ g4 ⟨⟨t5', rfl⟩, l4⟩
    exact t5 _ _ (Less.trans l2 l4)
  · rintro i d δ g4 hd ⟨⟨t5', rfl⟩, l4⟩
    obtain ⟨ap, app, ak⟩ := odd_k (g := g4) hw (List.mem_of_getElem? hd)
    simp only [forall_const, true_implies, false_implies, implies_true, and_true, true_and, reduceCtorEq, Bool.not_true, Bool.not_false, Bool.true_xor, Bool.false_xor, Option.some.injEq, exists_eq_left', put_same, onB_bl, dSeq, dNext, dBreak, dDrop, dRet, dRetN, dIfS, dName, dgNil, dgCons, dgTup, dAsg, dPar, dPar3, dSetI, dgSub, dRaise, dVar, dC, dOp, dTest, dAnd, dOr, dNot, dAndV, dOrV, dNotV, dIf, dNil, dCons, dTup, dLst, dCall, dCB, dMt, dMt0, dInC, dIxC, dChain, dNeg, dNoPart, dPart, dSl, exE, dIsA, dCat, catchD, subE, Ex.ix, endsD, dLc, dISeq, dIRng1, dIRng2, dIEnum, dFor, dDcT, dDcK, dCallV, mStarts_str, List.getElem?_cons_zero, List.getElem?_cons_succ, List.set_cons_zero, List.set_cons_succ, onL_lst, isA_non, isA_int_int, isA_bool_int, isA_str_int, isA_tup_int, isA_lst_int, isA_int_str, isA_bool_str, isA_str_str, isA_tup_str, isA_lst_str, isA_int_tup, isA_bool_tup, isA_str_tup, isA_tup_tup, isA_lst_tup, isA_int_bl, isA_bool_bl, isA_str_bl, isA_tup_bl, isA_lst_bl, dAdd_int, dAdd_str, dAdd_tup, dAdd_ref, dSub_int, dLt_int, dLe_int, dGt_int, dGe_int, dMul_int, dMul_str, dMul_ref, dMod_int, dFdiv_int, dPow_int, dIsN_, dNotN_, isNon_int, isNon_non, dEq_str, dEq_int, dNe_str, dNe_int, dIn_sign, dIx_str, dIx_tup, dIx_scr, dIx_ref, dCut_str, dCut_tup, dCut_scr, dCut_ref, bLen_str, bLen_tup, bLen_ref, bInt_int, bInt_bl, bTup_tup, bTup_ref, bList_str, bList_tup, bList_ref, tyD_str, mAppend_ref, mExtend_ref, tyL, dSetL_ref, mJoin_ref, bMin_ref, bMax_ref, atI_0, atI_1, atI_2, pk]
    refine as_rule ap app ak ⟨by decide, ?_⟩
    simp only [Nat.reduceBEq, Bool.false_or]
    exact ⟨fun z => by simp at z, fun _ => ⟨⟨_, rfl⟩, l4⟩⟩
theorem ok__law_refused_right (ds : List D) (h : DHp) (Q : DK) (E : DX) (hn : ds.length = 4) (q : sp__law_refused_right ds h Q E) : m__law_refused_right (endsD Q E) (startD N__law_refused_right ds) h := by
  have hs := sizeLine_eq
  match ds, q with
  | [.tup [.str k, .int a, .int b], .fn w, .ref rw, .str z], ⟨ks, k2, x, y, hw, hr, erw, ox, oy, nxy, lz, okz, q⟩ =>
    have c : RC44 w ks k2 k a b x y z := ⟨hw, hr, ox, oy, nxy, lz, okz⟩
    have t2 : ∀ r4 g O, Less h g → g r4 = some (.lst O) → O ++ [.non, .tup [.str k, .int 1], .tup [.str kC, .int 0, .int 1], .tup [.str k, .int 2, .int 1], .str kO, .tup []] = oddK k → O.length ≤ 2 → t__law_refused_right_2 (endsD Q E) [some (.tup [.str k, .int a, .int b]), some (.fn w), some (.ref rw), some (.str z), some (.ref r4), none, none, none, some (.str x), some (.str y), none] g := fun r4 g O l e4 eO lO => tl2 c l e4 eO lO q
    rw [st__law_refused_right]
    show (dSeq _ (dSeq _ t__law_refused_right_2)) (endsD Q E) _ h
    generalize t__law_refused_right_2 = t2' at t2
    simp only [forall_const, true_implies, false_implies, implies_true, and_true, true_and, reduceCtorEq, Bool.not_true, Bool.not_false, Bool.true_xor, Bool.false_xor, Option.some.injEq, exists_eq_left', put_same, onB_bl, dSeq, dNext, dBreak, dDrop, dRet, dRetN, dIfS, dName, dgNil, dgCons, dgTup, dAsg, dPar, dPar3, dSetI, dgSub, dRaise, dVar, dC, dOp, dTest, dAnd, dOr, dNot, dAndV, dOrV, dNotV, dIf, dNil, dCons, dTup, dLst, dCall, dCB, dMt, dMt0, dInC, dIxC, dChain, dNeg, dNoPart, dPart, dSl, exE, dIsA, dCat, catchD, subE, Ex.ix, endsD, dLc, dISeq, dIRng1, dIRng2, dIEnum, dFor, dDcT, dDcK, dCallV, mStarts_str, List.getElem?_cons_zero, List.getElem?_cons_succ, List.set_cons_zero, List.set_cons_succ, onL_lst, isA_non, isA_int_int, isA_bool_int, isA_str_int, isA_tup_int, isA_lst_int, isA_int_str, isA_bool_str, isA_str_str, isA_tup_str, isA_lst_str, isA_int_tup, isA_bool_tup, isA_str_tup, isA_tup_tup, isA_lst_tup, isA_int_bl, isA_bool_bl, isA_str_bl, isA_tup_bl, isA_lst_bl, dAdd_int, dAdd_str, dAdd_tup, dAdd_ref, dSub_int, dLt_int, dLe_int, dGt_int, dGe_int, dMul_int, dMul_str, dMul_ref, dMod_int, dFdiv_int, dPow_int, dIsN_, dNotN_, isNon_int, isNon_non, dEq_str, dEq_int, dNe_str, dNe_int, dIn_sign, dIx_str, dIx_tup, dIx_scr, dIx_ref, dCut_str, dCut_tup, dCut_scr, dCut_ref, bLen_str, bLen_tup, bLen_ref, bInt_int, bInt_bl, bTup_tup, bTup_ref, bList_str, bList_tup, bList_ref, tyD_str, mAppend_ref, mExtend_ref, tyL, dSetL_ref, mJoin_ref, bMin_ref, bMax_ref, atI_0, atI_1, atI_2, erw]
    refine ⟨rfl, fun hk => ⟨by show (3 : Nat) ≤ sizeLine; omega, by show (3 : Nat) ≤ sizeLine; omega, by show (2 : Nat) ≤ sizeLine; omega, fun p n => t2 p _ _ (Less.put n) put_same ?_ (by simp)⟩, fun hk => ⟨by show (3 : Nat) ≤ sizeLine; omega, by show (1 : Nat) ≤ sizeLine; omega, fun p n => t2 p _ _ (Less.put n) put_same ?_ (by simp)⟩⟩
    · have hk : (k == kF) = true := hk
      simp only [oddK, hk, if_true]
    · have hk : (k == kF) = false := hk
      simp [oddK, hk]
end Tw

namespace Tw
open PySem PySem.Spec PyProof.Rows L2
theorem as_right {ks : List Tx} {k2 k : Tx} {a b : Int} {x y z : Tx} {g : DHp} {K : DK} {E : DX} (hr : isKindR (.tup [.str k, .int a, .int b]) ks = true) (tx' : isText (.str x) SMALL = true) (ty' : isText (.str y) SMALL = true) (two : x ≠ y)
    (lz : z.length ≤ 200) (zx : z ∈ readW k x a.toNat b.toNat) (zy : z ∈ readW k y a.toNat b.toNat) (q : ∀ v, v ∈ readW k2 x a.toNat b.toNat → v ∈ readW k2 y a.toNat b.toNat → K (.str v) g) : [D.tup [.str k, .int a, .int b], .str x, .str y, .str z].length = 4 ∧ asSp ks k2 [.tup [.str k, .int a, .int b], .str x, .str y, .str z] g K E := by
  obtain ⟨x', e, lx, _⟩ := isText_str tx'
  cases e
  obtain ⟨y', e, ly, _⟩ := isText_str ty'
  cases e
  refine ⟨rfl, plain_t, rule_parts, plain_s, plain_s, plain_s, fun _ z => (by cases z; omega), fun _ z => (by cases z; omega), fun _ z => (by cases z; omega), fun z => (by rw [hr] at z; cases z), fun k' a' b' e _ => ?_⟩
  cases e
  refine ⟨fun c => absurd ⟨rfl, rfl, tx', ty', two⟩ (c x y), fun x' y' c => ?_⟩
  obtain ⟨c1, c2, _⟩ := c
  cases c1; cases c2
  exact ⟨fun z' _ => q, fun n => absurd ⟨rfl, lz, zx, zy⟩ (n z)⟩
def sp__law_pair_right : SpD := fun ds h Q _ => match ds with
  | [.tup [.str k, .int a, .int b], .ref rw, .str z] => (k = kF ∨ k = kO ∨ k = kD) ∧ isRule (.tup [.str k, .int a, .int b]) = true ∧ ∃ x y, h rw = some (.lst [.str x, .str y]) ∧ okS x ∧ okS y ∧ x ≠ y ∧ z.length ≤ 200 ∧ okTx z ∧ z ∈ readW k x a.toNat b.toNat ∧ z ∈ readW k y a.toNat b.toNat ∧ Q (.bl true) h
  | _ => False
/-- _law_pair_right(rule, words, reading); slots: rule 0, words 1, reading 2, told 3, word 4, work 5, wider 6 -/
def N__law_pair_right : List Str := ["rule", "words", "reading", "told", "word", "work", "wider"]
def m__law_pair_right : MS := dSeq (dAsg (dIf (dTest (dOp dEq (dOp dIx (dVar 0) (dC (.int 0))) (dC (.str [102, 97, 100, 101, 100])))) (dTup (dCons (dC (.fn "as_open")) (dCons (dC (.str [111, 112, 101, 110])) (dNil)))) (dTup (dCons (dC (.fn "as_closed")) (dCons (dC (.str [99, 108, 111, 115, 101, 100])) (dNil))))) (dgTup 2 (dgCons (dName 5) (dgCons (dName 6) (dgNil))))) (dSeq (dAsg (dCallV 5 [("as_open", 4, sp_as_open), ("as_closed", 4, sp_as_closed)] (dCons (dVar 0) (dCons (dOp dIx (dVar 1) (dC (.int 0))) (dCons (dOp dIx (dVar 1) (dC (.int 1))) (dCons (dVar 2) (dNil)))))) (dName 3)) (dSeq (dFor (dISeq (dVar 1)) (dName 4) (dIfS (dTest (dOp (dIn true) (dVar 3) (dCall 2 sp__law_readings (dCons (dTup (dCons (dVar 6) (dCons (dOp dIx (dVar 0) (dC (.int 1))) (dCons (dOp dIx (dVar 0) (dC (.int 2))) (dNil))))) (dCons (dVar 4) (dNil)))))) (dRet (dC (.bl false))) (dNext))) (dRet (dCall 4 sp__law_refused_right (dCons (dVar 0) (dCons (dVar 5) (dCons (dVar 1) (dCons (dVar 2) (dNil)))))))))
theorem st__law_pair_right (a0 a1 a2 : D) : startD N__law_pair_right [a0, a1, a2] = [some a0, some a1, some a2, none, none, none, none] := rfl
def t__law_pair_right_1 : MS := dSeq (dAsg (dCallV 5 [("as_open", 4, sp_as_open), ("as_closed", 4, sp_as_closed)] (dCons (dVar 0) (dCons (dOp dIx (dVar 1) (dC (.int 0))) (dCons (dOp dIx (dVar 1) (dC (.int 1))) (dCons (dVar 2) (dNil)))))) (dName 3)) (dSeq (dFor (dISeq (dVar 1)) (dName 4) (dIfS (dTest (dOp (dIn true) (dVar 3) (dCall 2 sp__law_readings (dCons (dTup (dCons (dVar 6) (dCons (dOp dIx (dVar 0) (dC (.int 1))) (dCons (dOp dIx (dVar 0) (dC (.int 2))) (dNil))))) (dCons (dVar 4) (dNil)))))) (dRet (dC (.bl false))) (dNext))) (dRet (dCall 4 sp__law_refused_right (dCons (dVar 0) (dCons (dVar 5) (dCons (dVar 1) (dCons (dVar 2) (dNil))))))))
def t__law_pair_right_2 : MS := dSeq (dFor (dISeq (dVar 1)) (dName 4) (dIfS (dTest (dOp (dIn true) (dVar 3) (dCall 2 sp__law_readings (dCons (dTup (dCons (dVar 6) (dCons (dOp dIx (dVar 0) (dC (.int 1))) (dCons (dOp dIx (dVar 0) (dC (.int 2))) (dNil))))) (dCons (dVar 4) (dNil)))))) (dRet (dC (.bl false))) (dNext))) (dRet (dCall 4 sp__law_refused_right (dCons (dVar 0) (dCons (dVar 5) (dCons (dVar 1) (dCons (dVar 2) (dNil)))))))
def t__law_pair_right_3 : MS := dRet (dCall 4 sp__law_refused_right (dCons (dVar 0) (dCons (dVar 5) (dCons (dVar 1) (dCons (dVar 2) (dNil))))))
theorem kind2 {k2 : Tx} (h : k2 = kO ∨ k2 = kC) : isKind k2 := by
  rcases h with rfl | rfl
  · exact .inr (.inl rfl)
  · exact .inr (.inr (.inl rfl))
theorem pr1 {Q : DK} {E : DX} {h : DHp} {w : Str} {ks : List Tx} {k2 k : Tx} {a b : Int} {x y z : Tx} {rw : Addr} {s3 s4 : Option D} (c : RC44 w ks k2 k a b x y z) (lz : z.length ≤ 200) (erw : h rw = some (.lst [.str x, .str y])) (zx : z ∈ readW k x a.toNat b.toNat) (zy : z ∈ readW k y a.toNat b.toNat) (q : Q (.bl true) h) :
    t__law_pair_right_1 (endsD Q E) [some (.tup [.str k, .int a, .int b]), some (.ref rw), some (.str z), s3, s4, some (.fn w), some (.str k2)] h := by
  have hs := sizeLine_eq
  have hkr := rc_kind c
  obtain ⟨hw, hr, ox, oy, nxy, lz3, okz⟩ := c
  have hab := rule_lo hr
  have pk := work_pick hw
  have hk2 : isKind k2 := by
    rcases hw with ⟨_, _, _, rfl⟩ | ⟨_, _, _, rfl⟩
    · exact kind2 (.inl rfl)
    · exact kind2 (.inr rfl)
  simp only [t__law_pair_right_1, forall_const, true_implies, false_implies, implies_true, and_true, true_and, reduceCtorEq, Bool.not_true, Bool.not_false, Bool.true_xor, Bool.false_xor, Option.some.injEq, exists_eq_left', put_same, onB_bl, dSeq, dNext, dBreak, dDrop, dRet, dRetN, dIfS, dName, dgNil, dgCons, dgTup, dAsg, dPar, dPar3, dSetI, dgSub, dRaise, dVar, dC, dOp, dTest, dAnd, dOr, dNot, dAndV, dOrV, dNotV, dIf, dNil, dCons, dTup, dLst, dCall, dCB, dMt, dMt0, dInC, dIxC, dChain, dNeg, dNoPart, dPart, dSl, exE, dIsA, dCat, catchD, subE, Ex.ix, endsD, dLc, dISeq, dIRng1, dIRng2, dIEnum, dFor, dDcT, dDcK, dCallV, mStarts_str, List.getElem?_cons_zero, List.getElem?_cons_succ, List.set_cons_zero, List.set_cons_succ, onL_lst, isA_non, isA_int_int, isA_bool_int, isA_str_int, isA_tup_int, isA_lst_int, isA_int_str, isA_bool_str, isA_str_str, isA_tup_str, isA_lst_str, isA_int_tup, isA_bool_tup, isA_str_tup, isA_tup_tup, isA_lst_tup, isA_int_bl, isA_bool_bl, isA_str_bl, isA_tup_bl, isA_lst_bl, dAdd_int, dAdd_str, dAdd_tup, dAdd_ref, dSub_int, dLt_int, dLe_int, dGt_int, dGe_int, dMul_int, dMul_str, dMul_ref, dMod_int, dFdiv_int, dPow_int, dIsN_, dNotN_, isNon_int, isNon_non, dEq_str, dEq_int, dNe_str, dNe_int, dIn_sign, dIx_str, dIx_tup, dIx_scr, dIx_ref, dCut_str, dCut_tup, dCut_scr, dCut_ref, bLen_str, bLen_tup, bLen_ref, bInt_int, bInt_bl, bTup_tup, bTup_ref, bList_str, bList_tup, bList_ref, tyD_str, mAppend_ref, mExtend_ref, tyL, dSetL_ref, mJoin_ref, bMin_ref, bMax_ref, atI_0, atI_1, atI_2, erw, pk]
  refine as_right hkr (okS_text ox) (okS_text oy) nxy lz zx zy fun v vx vy => ?_
  simp only [erw]
  refine forB_inv (fun i δ h' => (∃ t4, δ = [some (.tup [.str k, .int a, .int b]), some (.ref rw), some (.str z), some (.str v), t4, some (.fn w), some (.str k2)]) ∧ Less h h')
    ⟨⟨_, rfl⟩, Less.refl⟩ (fun i δ h' v => v.2 _ _ erw) ?_ ?_
  · rintro δ g ⟨⟨t4, rfl⟩, l⟩
    simp only [forall_const, true_implies, false_implies, implies_true, and_true, true_and, reduceCtorEq, Bool.not_true, Bool.not_false, Bool.true_xor, Bool.false_xor, Option.some.injEq, exists_eq_left', put_same, onB_bl, dSeq, dNext, dBreak, dDrop, dRet, dRetN, dIfS, dName, dgNil, dgCons, dgTup, dAsg, dPar, dPar3, dSetI, dgSub, dRaise, dVar, dC, dOp, dTest, dAnd, dOr, dNot, dAndV, dOrV, dNotV, dIf, dNil, dCons, dTup, dLst, dCall, dCB, dMt, dMt0, dInC, dIxC, dChain, dNeg, dNoPart, dPart, dSl, exE, dIsA, dCat, catchD, subE, Ex.ix, endsD, dLc, dISeq, dIRng1, dIRng2, dIEnum, dFor, dDcT, dDcK, dCallV, mStarts_str, List.getElem?_cons_zero, List.getElem?_cons_succ, List.set_cons_zero, List.set_cons_succ, onL_lst, isA_non, isA_int_int, isA_bool_int, isA_str_int, isA_tup_int, isA_lst_int, isA_int_str, isA_bool_str, isA_str_str, isA_tup_str, isA_lst_str, isA_int_tup, isA_bool_tup, isA_str_tup, isA_tup_tup, isA_lst_tup, isA_int_bl, isA_bool_bl, isA_str_bl, isA_tup_bl, isA_lst_bl, dAdd_int, dAdd_str, dAdd_tup, dAdd_ref, dSub_int, dLt_int, dLe_int, dGt_int, dGe_int, dMul_int, dMul_str, dMul_ref, dMod_int, dFdiv_int, dPow_int, dIsN_, dNotN_, isNon_int, isNon_non, dEq_str, dEq_int, dNe_str, dNe_int, dIn_sign, dIx_str, dIx_tup, dIx_scr, dIx_ref, dCut_str, dCut_tup, dCut_scr, dCut_ref, bLen_str, bLen_tup, bLen_ref, bInt_int, bInt_bl, bTup_tup, bTup_ref, bList_str, bList_tup, bList_ref, tyD_str, mAppend_ref, mExtend_ref, tyL, dSetL_ref, mJoin_ref, bMin_ref, bMax_ref, atI_0, atI_1, atI_2]
    exact ⟨rfl, ks, k2, x, y, hw, hr, l _ _ erw, ox, oy, nxy, lz3, okz, fgt_less l q⟩
  · rintro i d δ g hd ⟨⟨t4, rfl⟩, l⟩
    have hd' : ∃ u, d = .str u ∧ okS u ∧ v ∈ readW k2 u a.toNat b.toNat := by
      have := List.mem_of_getElem? hd
      simp only [List.mem_cons, List.mem_nil_iff, or_false] at this
      rcases this with rfl | rfl
      · exact ⟨_, rfl, ox, vx⟩
      · exact ⟨_, rfl, oy, vy⟩
    obtain ⟨u, rfl, ou, vu⟩ := hd'
    have lu := ou.1
    simp only [forall_const, true_implies, false_implies, implies_true, and_true, true_and, reduceCtorEq, Bool.not_true, Bool.not_false, Bool.true_xor, Bool.false_xor, Option.some.injEq, exists_eq_left', put_same, onB_bl, dSeq, dNext, dBreak, dDrop, dRet, dRetN, dIfS, dName, dgNil, dgCons, dgTup, dAsg, dPar, dPar3, dSetI, dgSub, dRaise, dVar, dC, dOp, dTest, dAnd, dOr, dNot, dAndV, dOrV, dNotV, dIf, dNil, dCons, dTup, dLst, dCall, dCB, dMt, dMt0, dInC, dIxC, dChain, dNeg, dNoPart, dPart, dSl, exE, dIsA, dCat, catchD, subE, Ex.ix, endsD, dLc, dISeq, dIRng1, dIRng2, dIEnum, dFor, dDcT, dDcK, dCallV, mStarts_str, List.getElem?_cons_zero, List.getElem?_cons_succ, List.set_cons_zero, List.set_cons_succ, onL_lst, isA_non, isA_int_int, isA_bool_int, isA_str_int, isA_tup_int, isA_lst_int, isA_int_str, isA_bool_str, isA_str_str, isA_tup_str, isA_lst_str, isA_int_tup, isA_bool_tup, isA_str_tup, isA_tup_tup, isA_lst_tup, isA_int_bl, isA_bool_bl, isA_str_bl, isA_tup_bl, isA_lst_bl, dAdd_int, dAdd_str, dAdd_tup, dAdd_ref, dSub_int, dLt_int, dLe_int, dGt_int, dGe_int, dMul_int, dMul_str, dMul_ref, dMod_int, dFdiv_int, dPow_int, dIsN_, dNotN_, isNon_int, isNon_non, dEq_str, dEq_int, dNe_str, dNe_int, dIn_sign, dIx_str, dIx_tup, dIx_scr, dIx_ref, dCut_str, dCut_tup, dCut_scr, dCut_ref, bLen_str, bLen_tup, bLen_ref, bInt_int, bInt_bl, bTup_tup, bTup_ref, bList_str, bList_tup, bList_ref, tyD_str, mAppend_ref, mExtend_ref, tyL, dSetL_ref, mJoin_ref, bMin_ref, bMax_ref, atI_0, atI_1, atI_2]
    refine ⟨by show (3 : Nat) ≤ sizeLine; omega, rfl, hk2, okS_ok ou, hab.1, hab.2.1, hab.2.2, by omega, fun r nr => ?_⟩
    refine dIn_rs put_same ?_
    simp only [onB_, vu, decide_true, Bool.true_xor, Bool.not_true]
    exact ⟨fun z => (by cases z), fun _ => ⟨⟨_, rfl⟩, less_new l nr⟩⟩
theorem ok__law_pair_right (ds : List D) (h : DHp) (Q : DK) (E : DX) (hn : ds.length = 3) (q : sp__law_pair_right ds h Q E) : m__law_pair_right (endsD Q E) (startD N__law_pair_right ds) h := by
  have hs := sizeLine_eq
  match ds, q with
  | [.tup [.str k, .int a, .int b], .ref rw, .str z], ⟨hk, hr, x, y, erw, ox, oy, nxy, lz, okz, zx, zy, q⟩ =>
    have t1 : ∀ w ks k2, workK w k ks k2 → t__law_pair_right_1 (endsD Q E) [some (.tup [.str k, .int a, .int b]), some (.ref rw), some (.str z), none, none, some (.fn w), some (.str k2)] h := fun w ks k2 hw => pr1 ⟨hw, hr, ox, oy, nxy, by omega, okz⟩ lz erw zx zy q
    rw [st__law_pair_right]
    show (dSeq _ t__law_pair_right_1) (endsD Q E) _ h
    generalize t__law_pair_right_1 = t1' at t1
    simp only [forall_const, true_implies, false_implies, implies_true, and_true, true_and, reduceCtorEq, Bool.not_true, Bool.not_false, Bool.true_xor, Bool.false_xor, Option.some.injEq, exists_eq_left', put_same, onB_bl, dSeq, dNext, dBreak, dDrop, dRet, dRetN, dIfS, dName, dgNil, dgCons, dgTup, dAsg, dPar, dPar3, dSetI, dgSub, dRaise, dVar, dC, dOp, dTest, dAnd, dOr, dNot, dAndV, dOrV, dNotV, dIf, dNil, dCons, dTup, dLst, dCall, dCB, dMt, dMt0, dInC, dIxC, dChain, dNeg, dNoPart, dPart, dSl, exE, dIsA, dCat, catchD, subE, Ex.ix, endsD, dLc, dISeq, dIRng1, dIRng2, dIEnum, dFor, dDcT, dDcK, dCallV, mStarts_str, List.getElem?_cons_zero, List.getElem?_cons_succ, List.set_cons_zero, List.set_cons_succ, onL_lst, isA_non, isA_int_int, isA_bool_int, isA_str_int, isA_tup_int, isA_lst_int, isA_int_str, isA_bool_str, isA_str_str, isA_tup_str, isA_lst_str, isA_int_tup, isA_bool_tup, isA_str_tup, isA_tup_tup, isA_lst_tup, isA_int_bl, isA_bool_bl, isA_str_bl, isA_tup_bl, isA_lst_bl, dAdd_int, dAdd_str, dAdd_tup, dAdd_ref, dSub_int, dLt_int, dLe_int, dGt_int, dGe_int, dMul_int, dMul_str, dMul_ref, dMod_int, dFdiv_int, dPow_int, dIsN_, dNotN_, isNon_int, isNon_non, dEq_str, dEq_int, dNe_str, dNe_int, dIn_sign, dIx_str, dIx_tup, dIx_scr, dIx_ref, dCut_str, dCut_tup, dCut_scr, dCut_ref, bLen_str, bLen_tup, bLen_ref, bInt_int, bInt_bl, bTup_tup, bTup_ref, bList_str, bList_tup, bList_ref, tyD_str, mAppend_ref, mExtend_ref, tyL, dSetL_ref, mJoin_ref, bMin_ref, bMax_ref, atI_0, atI_1, atI_2]
    refine ⟨fun e => ⟨by show (2 : Nat) ≤ sizeLine; omega, rfl, t1 _ _ _ (.inl ⟨rfl, by simpa using e, rfl, rfl⟩)⟩, fun e => ⟨by show (2 : Nat) ≤ sizeLine; omega, rfl, t1 _ _ _ (.inr ⟨rfl, ?_, rfl, rfl⟩)⟩⟩
    rcases hk with rfl | rfl | rfl
    · simp at e
    · exact .inl rfl
    · exact .inr rfl
def sp_law : SpD := fun ds h Q _ => match ds with
  | [.scr ns] => ns.length ≤ 63 ∧ ∀ h', Q (.bl true) h'
  | _ => False
/-- law(script); slots: script 0, pen 1, turn 2, told 3, kind 4, most 5, rule 6, reading 7, words 8, there 9, more 10, word 11 -/
def N_law : List Str := ["script", "pen", "turn", "told", "kind", "most", "rule", "reading", "words", "there", "more", "word"]
def m_law : MS := dSeq (dAsg (dCall 1 sp__law_open (dCons (dVar 0) (dNil))) (dName 1)) (dSeq (dFor (dIRng1 (dCons (dC (.int 8)) (dNil))) (dName 2) (dSeq (dAsg (dCall 2 sp__law_one_of (dCons (dVar 1) (dCons (dLst (dCons (dC (.str [102, 97, 100, 101, 100])) (dCons (dC (.str [111, 112, 101, 110])) (dCons (dC (.str [100, 111, 117, 98, 108, 101, 100])) (dCons (dC (.str [100, 111, 117, 98, 108, 101, 100])) (dNil)))))) (dNil)))) (dName 4)) (dSeq (dAsg (dOp dAdd (dC (.int 1)) (dCall 2 sp__law_take (dCons (dVar 1) (dCons (dIf (dTest (dOp dEq (dVar 4) (dC (.str [100, 111, 117, 98, 108, 101, 100])))) (dC (.int 2)) (dC (.int 3))) (dNil))))) (dName 5)) (dSeq (dAsg (dTup (dCons (dVar 4) (dCons (dCall 2 sp__law_take (dCons (dVar 1) (dCons (dOp dAdd (dVar 5) (dC (.int 1))) (dNil)))) (dCons (dVar 5) (dNil))))) (dName 6)) (dSeq (dAsg (dCall 2 sp__law_any_reading (dCons (dVar 1) (dCons (dVar 6) (dNil)))) (dName 7)) (dSeq (dAsg (dCall 3 sp__law_sources (dCons (dVar 1) (dCons (dVar 6) (dCons (dVar 7) (dNil))))) (dName 8)) (dSeq (dAsg (dLc (dISeq (dVar 8)) (.nm 11) (dTest (dOp (dIn false) (dVar 7) (dCall 2 sp__law_readings (dCons (dVar 6) (dCons (dVar 11) (dNil)))))) (dVar 11) [11]) (dName 9)) (dIfS (dAnd (dTest (dOp dEq (dCB bLen (dCons (dVar 9) (dNil))) (dC (.int 2)))) (dAnd (dTest (dOp dNe (dOp dIx (dVar 8) (dC (.int 0))) (dOp dIx (dVar 8) (dC (.int 1))))) (dNot (dTest (dCall 3 sp__law_pair_right (dCons (dVar 6) (dCons (dVar 8) (dCons (dVar 7) (dNil))))))))) (dRet (dC (.bl false))) (dNext))))))))) (dSeq (dAsg (dTup (dCons (dOp dMul (dC (.str [97])) (dC (.int 197))) (dCons (dTup (dCons (dC (.str [100, 111, 117, 98, 108, 101, 100])) (dCons (dC (.int 1)) (dCons (dC (.int 1)) (dNil))))) (dNil)))) (dgTup 2 (dgCons (dName 10) (dgCons (dName 6) (dgNil))))) (dSeq (dAsg (dCall 4 sp_as_closed (dCons (dVar 6) (dCons (dOp dAdd (dC (.str [97, 97, 98])) (dSl (dVar 10) (dPart (dC (.int 1))) (dNoPart))) (dCons (dOp dAdd (dC (.str [97, 98, 98])) (dSl (dVar 10) (dPart (dC (.int 1))) (dNoPart))) (dCons (dOp dAdd (dC (.str [97, 97, 98, 98])) (dSl (dVar 10) (dPart (dC (.int 1))) (dNoPart))) (dNil)))))) (dName 3)) (dSeq (dIfS (dOr (dTest (dOp (dIn true) (dVar 3) (dCall 2 sp__law_readings (dCons (dTup (dCons (dC (.str [99, 108, 111, 115, 101, 100])) (dCons (dC (.int 1)) (dCons (dC (.int 1)) (dNil))))) (dCons (dOp dAdd (dC (.str [97, 97, 98])) (dSl (dVar 10) (dPart (dC (.int 1))) (dNoPart))) (dNil)))))) (dTest (dOp dNe (dCB bLen (dCons (dVar 3) (dNil))) (dC (.int 198))))) (dRet (dC (.bl false))) (dNext)) (dRet (dOp dEq (dCat [.tear, .rule, .word, .reading] [(.rule, [114, 117, 108, 101]), (.word, [119, 111, 114, 100]), (.reading, [114, 101, 97, 100, 105, 110, 103]), (.tear, [111, 100, 100])] [110, 111, 110, 101] (dCall 4 sp_as_open (dCons (dTup (dCons (dC (.str [111, 112, 101, 110])) (dCons (dC (.int 0)) (dCons (dC (.int 1)) (dNil))))) (dCons (dC (.str [97])) (dCons (dC (.str [98])) (dCons (dC (.str [42])) (dNil))))))) (dC (.str [114, 117, 108, 101]))))))))
theorem st_law (a0 : D) : startD N_law [a0] = [some a0, none, none, none, none, none, none, none, none, none, none, none] := rfl
def t_law_1 : MS := dSeq (dFor (dIRng1 (dCons (dC (.int 8)) (dNil))) (dName 2) (dSeq (dAsg (dCall 2 sp__law_one_of (dCons (dVar 1) (dCons (dLst (dCons (dC (.str [102, 97, 100, 101, 100])) (dCons (dC (.str [111, 112, 101, 110])) (dCons (dC (.str [100, 111, 117, 98, 108, 101, 100])) (dCons (dC (.str [100, 111, 117, 98, 108, 101, 100])) (dNil)))))) (dNil)))) (dName 4)) (dSeq (dAsg (dOp dAdd (dC (.int 1)) (dCall 2 sp__law_take (dCons (dVar 1) (dCons (dIf (dTest (dOp dEq (dVar 4) (dC (.str [100, 111, 117, 98, 108, 101, 100])))) (dC (.int 2)) (dC (.int 3))) (dNil))))) (dName 5)) (dSeq (dAsg (dTup (dCons (dVar 4) (dCons (dCall 2 sp__law_take (dCons (dVar 1) (dCons (dOp dAdd (dVar 5) (dC (.int 1))) (dNil)))) (dCons (dVar 5) (dNil))))) (dName 6)) (dSeq (dAsg (dCall 2 sp__law_any_reading (dCons (dVar 1) (dCons (dVar 6) (dNil)))) (dName 7)) (dSeq (dAsg (dCall 3 sp__law_sources (dCons (dVar 1) (dCons (dVar 6) (dCons (dVar 7) (dNil))))) (dName 8)) (dSeq (dAsg (dLc (dISeq (dVar 8)) (.nm 11) (dTest (dOp (dIn false) (dVar 7) (dCall 2 sp__law_readings (dCons (dVar 6) (dCons (dVar 11) (dNil)))))) (dVar 11) [11]) (dName 9)) (dIfS (dAnd (dTest (dOp dEq (dCB bLen (dCons (dVar 9) (dNil))) (dC (.int 2)))) (dAnd (dTest (dOp dNe (dOp dIx (dVar 8) (dC (.int 0))) (dOp dIx (dVar 8) (dC (.int 1))))) (dNot (dTest (dCall 3 sp__law_pair_right (dCons (dVar 6) (dCons (dVar 8) (dCons (dVar 7) (dNil))))))))) (dRet (dC (.bl false))) (dNext))))))))) (dSeq (dAsg (dTup (dCons (dOp dMul (dC (.str [97])) (dC (.int 197))) (dCons (dTup (dCons (dC (.str [100, 111, 117, 98, 108, 101, 100])) (dCons (dC (.int 1)) (dCons (dC (.int 1)) (dNil))))) (dNil)))) (dgTup 2 (dgCons (dName 10) (dgCons (dName 6) (dgNil))))) (dSeq (dAsg (dCall 4 sp_as_closed (dCons (dVar 6) (dCons (dOp dAdd (dC (.str [97, 97, 98])) (dSl (dVar 10) (dPart (dC (.int 1))) (dNoPart))) (dCons (dOp dAdd (dC (.str [97, 98, 98])) (dSl (dVar 10) (dPart (dC (.int 1))) (dNoPart))) (dCons (dOp dAdd (dC (.str [97, 97, 98, 98])) (dSl (dVar 10) (dPart (dC (.int 1))) (dNoPart))) (dNil)))))) (dName 3)) (dSeq (dIfS (dOr (dTest (dOp (dIn true) (dVar 3) (dCall 2 sp__law_readings (dCons (dTup (dCons (dC (.str [99, 108, 111, 115, 101, 100])) (dCons (dC (.int 1)) (dCons (dC (.int 1)) (dNil))))) (dCons (dOp dAdd (dC (.str [97, 97, 98])) (dSl (dVar 10) (dPart (dC (.int 1))) (dNoPart))) (dNil)))))) (dTest (dOp dNe (dCB bLen (dCons (dVar 3) (dNil))) (dC (.int 198))))) (dRet (dC (.bl false))) (dNext)) (dRet (dOp dEq (dCat [.tear, .rule, .word, .reading] [(.rule, [114, 117, 108, 101]), (.word, [119, 111, 114, 100]), (.reading, [114, 101, 97, 100, 105, 110, 103]), (.tear, [111, 100, 100])] [110, 111, 110, 101] (dCall 4 sp_as_open (dCons (dTup (dCons (dC (.str [111, 112, 101, 110])) (dCons (dC (.int 0)) (dCons (dC (.int 1)) (dNil))))) (dCons (dC (.str [97])) (dCons (dC (.str [98])) (dCons (dC (.str [42])) (dNil))))))) (dC (.str [114, 117, 108, 101])))))))
def t_law_2 : MS := dSeq (dAsg (dTup (dCons (dOp dMul (dC (.str [97])) (dC (.int 197))) (dCons (dTup (dCons (dC (.str [100, 111, 117, 98, 108, 101, 100])) (dCons (dC (.int 1)) (dCons (dC (.int 1)) (dNil))))) (dNil)))) (dgTup 2 (dgCons (dName 10) (dgCons (dName 6) (dgNil))))) (dSeq (dAsg (dCall 4 sp_as_closed (dCons (dVar 6) (dCons (dOp dAdd (dC (.str [97, 97, 98])) (dSl (dVar 10) (dPart (dC (.int 1))) (dNoPart))) (dCons (dOp dAdd (dC (.str [97, 98, 98])) (dSl (dVar 10) (dPart (dC (.int 1))) (dNoPart))) (dCons (dOp dAdd (dC (.str [97, 97, 98, 98])) (dSl (dVar 10) (dPart (dC (.int 1))) (dNoPart))) (dNil)))))) (dName 3)) (dSeq (dIfS (dOr (dTest (dOp (dIn true) (dVar 3) (dCall 2 sp__law_readings (dCons (dTup (dCons (dC (.str [99, 108, 111, 115, 101, 100])) (dCons (dC (.int 1)) (dCons (dC (.int 1)) (dNil))))) (dCons (dOp dAdd (dC (.str [97, 97, 98])) (dSl (dVar 10) (dPart (dC (.int 1))) (dNoPart))) (dNil)))))) (dTest (dOp dNe (dCB bLen (dCons (dVar 3) (dNil))) (dC (.int 198))))) (dRet (dC (.bl false))) (dNext)) (dRet (dOp dEq (dCat [.tear, .rule, .word, .reading] [(.rule, [114, 117, 108, 101]), (.word, [119, 111, 114, 100]), (.reading, [114, 101, 97, 100, 105, 110, 103]), (.tear, [111, 100, 100])] [110, 111, 110, 101] (dCall 4 sp_as_open (dCons (dTup (dCons (dC (.str [111, 112, 101, 110])) (dCons (dC (.int 0)) (dCons (dC (.int 1)) (dNil))))) (dCons (dC (.str [97])) (dCons (dC (.str [98])) (dCons (dC (.str [42])) (dNil))))))) (dC (.str [114, 117, 108, 101]))))))
def t_law_3 : MS := dSeq (dAsg (dCall 4 sp_as_closed (dCons (dVar 6) (dCons (dOp dAdd (dC (.str [97, 97, 98])) (dSl (dVar 10) (dPart (dC (.int 1))) (dNoPart))) (dCons (dOp dAdd (dC (.str [97, 98, 98])) (dSl (dVar 10) (dPart (dC (.int 1))) (dNoPart))) (dCons (dOp dAdd (dC (.str [97, 97, 98, 98])) (dSl (dVar 10) (dPart (dC (.int 1))) (dNoPart))) (dNil)))))) (dName 3)) (dSeq (dIfS (dOr (dTest (dOp (dIn true) (dVar 3) (dCall 2 sp__law_readings (dCons (dTup (dCons (dC (.str [99, 108, 111, 115, 101, 100])) (dCons (dC (.int 1)) (dCons (dC (.int 1)) (dNil))))) (dCons (dOp dAdd (dC (.str [97, 97, 98])) (dSl (dVar 10) (dPart (dC (.int 1))) (dNoPart))) (dNil)))))) (dTest (dOp dNe (dCB bLen (dCons (dVar 3) (dNil))) (dC (.int 198))))) (dRet (dC (.bl false))) (dNext)) (dRet (dOp dEq (dCat [.tear, .rule, .word, .reading] [(.rule, [114, 117, 108, 101]), (.word, [119, 111, 114, 100]), (.reading, [114, 101, 97, 100, 105, 110, 103]), (.tear, [111, 100, 100])] [110, 111, 110, 101] (dCall 4 sp_as_open (dCons (dTup (dCons (dC (.str [111, 112, 101, 110])) (dCons (dC (.int 0)) (dCons (dC (.int 1)) (dNil))))) (dCons (dC (.str [97])) (dCons (dC (.str [98])) (dCons (dC (.str [42])) (dNil))))))) (dC (.str [114, 117, 108, 101])))))
def t_law_4 : MS := dSeq (dIfS (dOr (dTest (dOp (dIn true) (dVar 3) (dCall 2 sp__law_readings (dCons (dTup (dCons (dC (.str [99, 108, 111, 115, 101, 100])) (dCons (dC (.int 1)) (dCons (dC (.int 1)) (dNil))))) (dCons (dOp dAdd (dC (.str [97, 97, 98])) (dSl (dVar 10) (dPart (dC (.int 1))) (dNoPart))) (dNil)))))) (dTest (dOp dNe (dCB bLen (dCons (dVar 3) (dNil))) (dC (.int 198))))) (dRet (dC (.bl false))) (dNext)) (dRet (dOp dEq (dCat [.tear, .rule, .word, .reading] [(.rule, [114, 117, 108, 101]), (.word, [119, 111, 114, 100]), (.reading, [114, 101, 97, 100, 105, 110, 103]), (.tear, [111, 100, 100])] [110, 111, 110, 101] (dCall 4 sp_as_open (dCons (dTup (dCons (dC (.str [111, 112, 101, 110])) (dCons (dC (.int 0)) (dCons (dC (.int 1)) (dNil))))) (dCons (dC (.str [97])) (dCons (dC (.str [98])) (dCons (dC (.str [42])) (dNil))))))) (dC (.str [114, 117, 108, 101]))))
def t_law_5 : MS := dRet (dOp dEq (dCat [.tear, .rule, .word, .reading] [(.rule, [114, 117, 108, 101]), (.word, [119, 111, 114, 100]), (.reading, [114, 101, 97, 100, 105, 110, 103]), (.tear, [111, 100, 100])] [110, 111, 110, 101] (dCall 4 sp_as_open (dCons (dTup (dCons (dC (.str [111, 112, 101, 110])) (dCons (dC (.int 0)) (dCons (dC (.int 1)) (dNil))))) (dCons (dC (.str [97])) (dCons (dC (.str [98])) (dCons (dC (.str [42])) (dNil))))))) (dC (.str [114, 117, 108, 101])))
theorem likeR_ok {k z : Tx} (h : likeR k z) : okTx z := by
  obtain ⟨_, h1, h2, h3⟩ := h
  have sm : ∀ c ∈ SMALL, c < 1114112 := by decide
  intro c hc
  by_cases e1 : k = kF
  · rcases h1 e1 c hc with q | q
    · exact sm c q
    · omega
  · by_cases e2 : k = kO
    · rcases (h2 e2).1 c hc with q | q
      · exact sm c q
      · omega
    · exact sm c (h3 e1 e2 c hc)
theorem law_end {Q : DK} {E : DX} {g : DHp} {s0 s1 s2 s3 s4 s5 s6 s7 s8 s9 s10 s11 : Option D} (q : ∀ h', Q (.bl true) h') : t_law_2 (endsD Q E) [s0, s1, s2, s3, s4, s5, s6, s7, s8, s9, s10, s11] g := by
  have hs := sizeLine_eq
  simp only [t_law_2, forall_const, true_implies, false_implies, implies_true, and_true, true_and, reduceCtorEq, Bool.not_true, Bool.not_false, Bool.true_xor, Bool.false_xor, Option.some.injEq, exists_eq_left', put_same, onB_bl, dSeq, dNext, dBreak, dDrop, dRet, dRetN, dIfS, dName, dgNil, dgCons, dgTup, dAsg, dPar, dPar3, dSetI, dgSub, dRaise, dVar, dC, dOp, dTest, dAnd, dOr, dNot, dAndV, dOrV, dNotV, dIf, dNil, dCons, dTup, dLst, dCall, dCB, dMt, dMt0, dInC, dIxC, dChain, dNeg, dNoPart, dPart, dSl, exE, dIsA, dCat, catchD, subE, Ex.ix, endsD, dLc, dISeq, dIRng1, dIRng2, dIEnum, dFor, dDcT, dDcK, dCallV, mStarts_str, List.getElem?_cons_zero, List.getElem?_cons_succ, List.set_cons_zero, List.set_cons_succ, onL_lst, isA_non, isA_int_int, isA_bool_int, isA_str_int, isA_tup_int, isA_lst_int, isA_int_str, isA_bool_str, isA_str_str, isA_tup_str, isA_lst_str, isA_int_tup, isA_bool_tup, isA_str_tup, isA_tup_tup, isA_lst_tup, isA_int_bl, isA_bool_bl, isA_str_bl, isA_tup_bl, isA_lst_bl, dAdd_int, dAdd_str, dAdd_tup, dAdd_ref, dSub_int, dLt_int, dLe_int, dGt_int, dGe_int, dMul_int, dMul_str, dMul_ref, dMod_int, dFdiv_int, dPow_int, dIsN_, dNotN_, isNon_int, isNon_non, dEq_str, dEq_int, dNe_str, dNe_int, dIn_sign, dIx_str, dIx_tup, dIx_scr, dIx_ref, dCut_str, dCut_tup, dCut_scr, dCut_ref, bLen_str, bLen_tup, bLen_ref, bInt_int, bInt_bl, bTup_tup, bTup_ref, bList_str, bList_tup, bList_ref, tyD_str, mAppend_ref, mExtend_ref, tyL, dSetL_ref, mJoin_ref, bMin_ref, bMax_ref, atI_0, atI_1, atI_2]
  have t1 : isText (.str ([97, 97, 98] ++ cutD (repD (Int.toNat 197) [97]) (some 1) none)) SMALL = true := by decide
  have t2 : isText (.str ([97, 98, 98] ++ cutD (repD (Int.toNat 197) [97]) (some 1) none)) SMALL = true := by decide
  have lR : (cutD (repD (Int.toNat 197) [97]) (some 1) none).length = 196 := by decide
  have l7 : (repD (Int.toNat 197) [97]).length = 197 := by decide
  generalize cutD (repD (Int.toNat 197) [97]) (some 1) none = R at t1 t2 lR
  have zx : [97, 97, 98, 98] ++ R ∈ readW kD ([97, 97, 98] ++ R) (Int.toNat 1) (Int.toNat 1) := readW_iff.mpr ⟨2, 1, by decide, by decide, by simp, by rw [tear_d]; simp⟩
  have zy : [97, 97, 98, 98] ++ R ∈ readW kD ([97, 98, 98] ++ R) (Int.toNat 1) (Int.toNat 1) := readW_iff.mpr ⟨0, 1, by decide, by decide, by simp, by rw [tear_d]; simp⟩
  have hkr : isKindR (.tup [.str kD, .int 1, .int 1]) [kO, kD] = true := by decide
  have ok1 : okTx ([97, 97, 98] ++ R) := by
    obtain ⟨x, e, _, hm⟩ := isText_str t1
    cases e
    exact okTx_small hm
  refine ⟨⟨by decide, by decide, by show (1 : Nat) * 197 ≤ _; omega⟩, by show (3 : Nat) ≤ sizeLine; omega, by show (2 : Nat) ≤ sizeLine; omega, rfl, by omega, by simp; omega, by omega, by simp; omega, by omega, by simp; omega, ?_⟩
  refine as_right hkr t1 t2 (by simp) (by simp; omega) zx zy fun v vx vy => ?_
  refine ⟨by show (3 : Nat) ≤ sizeLine; omega, by omega, by simp; omega, rfl, .inr (.inr (.inl rfl)), ok1, by decide, by decide, by decide, by simp; omega, fun r nr => ?_⟩
  refine dIn_rs put_same ?_
  have lv : v.length = 198 := by
    obtain ⟨n, m, h1, h2, h3, e⟩ := readW_iff.mp vx
    have em : m = 1 := by
      have : (Int.toNat 1) = 1 := rfl
      omega
    subst em
    rw [e, tear_c]
    simp at h3 ⊢
    omega
  have vx' : decide (v ∈ readW kC ([97, 97, 98] ++ R) (Int.toNat 1) (Int.toNat 1)) = true := by simpa using vx
  simp only [onB_, vx', Bool.true_xor, Bool.not_true, bLen_str, lv]
  refine ⟨fun z => (by cases z), fun _ => ⟨by omega, ?_⟩⟩
  simp only [forall_const, true_implies, false_implies, implies_true, and_true, true_and, reduceCtorEq, Bool.not_true, Bool.not_false, Bool.true_xor, Bool.false_xor, Option.some.injEq, exists_eq_left', put_same, onB_bl, dSeq, dNext, dBreak, dDrop, dRet, dRetN, dIfS, dName, dgNil, dgCons, dgTup, dAsg, dPar, dPar3, dSetI, dgSub, dRaise, dVar, dC, dOp, dTest, dAnd, dOr, dNot, dAndV, dOrV, dNotV, dIf, dNil, dCons, dTup, dLst, dCall, dCB, dMt, dMt0, dInC, dIxC, dChain, dNeg, dNoPart, dPart, dSl, exE, dIsA, dCat, catchD, subE, Ex.ix, endsD, dLc, dISeq, dIRng1, dIRng2, dIEnum, dFor, dDcT, dDcK, dCallV, mStarts_str, List.getElem?_cons_zero, List.getElem?_cons_succ, List.set_cons_zero, List.set_cons_succ, onL_lst, isA_non, isA_int_int, isA_bool_int, isA_str_int, isA_tup_int, isA_lst_int, isA_int_str, isA_bool_str, isA_str_str, isA_tup_str, isA_lst_str, isA_int_tup, isA_bool_tup, isA_str_tup, isA_tup_tup, isA_lst_tup, isA_int_bl, isA_bool_bl, isA_str_bl, isA_tup_bl, isA_lst_bl, dAdd_int, dAdd_str, dAdd_tup, dAdd_ref, dSub_int, dLt_int, dLe_int, dGt_int, dGe_int, dMul_int, dMul_str, dMul_ref, dMod_int, dFdiv_int, dPow_int, dIsN_, dNotN_, isNon_int, isNon_non, dEq_str, dEq_int, dNe_str, dNe_int, dIn_sign, dIx_str, dIx_tup, dIx_scr, dIx_ref, dCut_str, dCut_tup, dCut_scr, dCut_ref, bLen_str, bLen_tup, bLen_ref, bInt_int, bInt_bl, bTup_tup, bTup_ref, bList_str, bList_tup, bList_ref, tyD_str, mAppend_ref, mExtend_ref, tyL, dSetL_ref, mJoin_ref, bMin_ref, bMax_ref, atI_0, atI_1, atI_2]
  refine ⟨fun z => by simp at z, fun _ => ⟨by show (3 : Nat) ≤ sizeLine; omega, rfl, ?_⟩⟩
  refine ⟨plain_t, rule_parts, plain_s, plain_s, plain_s, fun _ z => (by cases z; decide), fun _ z => (by cases z; decide), fun _ z => (by cases z; decide), fun _ => ⟨by decide, ?_⟩, fun k a b e z => ?_⟩
  · simp only [Nat.reduceBEq, Bool.false_or]
    exact fgt_here (q _)
  · rw [kindR_other (by decide)] at z
    cases z
theorem filt2 {x y : Tx} {f : Tx → Bool} (h : ([x, y].filter f).length = 2) : f x = true ∧ f y = true := by
  cases e1 : f x <;> cases e2 : f y <;> simp [List.filter_cons, e1, e2] at h <;> exact ⟨rfl, rfl⟩
theorem ok_law (ds : List D) (h : DHp) (Q : DK) (E : DX) (hn : ds.length = 1) (q : sp_law ds h Q E) : m_law (endsD Q E) (startD N_law ds) h := by
  have hs := sizeLine_eq
  match ds, q with
  | [.scr ns], ⟨h2, q⟩ =>
    have t2 : ∀ s0 s1 s2 s3 s4 s5 s6 s7 s8 s9 s10 s11 g, t_law_2 (endsD Q E) [s0, s1, s2, s3, s4, s5, s6, s7, s8, s9, s10, s11] g := fun s0 s1 s2 s3 s4 s5 s6 s7 s8 s9 s10 s11 g => law_end q
    rw [st_law]
    show (dSeq _ (dSeq _ t_law_2)) (endsD Q E) _ h
    generalize t_law_2 = t2' at t2
    simp only [forall_const, true_implies, false_implies, implies_true, and_true, true_and, reduceCtorEq, Bool.not_true, Bool.not_false, Bool.true_xor, Bool.false_xor, Option.some.injEq, exists_eq_left', put_same, onB_bl, dSeq, dNext, dBreak, dDrop, dRet, dRetN, dIfS, dName, dgNil, dgCons, dgTup, dAsg, dPar, dPar3, dSetI, dgSub, dRaise, dVar, dC, dOp, dTest, dAnd, dOr, dNot, dAndV, dOrV, dNotV, dIf, dNil, dCons, dTup, dLst, dCall, dCB, dMt, dMt0, dInC, dIxC, dChain, dNeg, dNoPart, dPart, dSl, exE, dIsA, dCat, catchD, subE, Ex.ix, endsD, dLc, dISeq, dIRng1, dIRng2, dIEnum, dFor, dDcT, dDcK, dCallV, mStarts_str, List.getElem?_cons_zero, List.getElem?_cons_succ, List.set_cons_zero, List.set_cons_succ, onL_lst, isA_non, isA_int_int, isA_bool_int, isA_str_int, isA_tup_int, isA_lst_int, isA_int_str, isA_bool_str, isA_str_str, isA_tup_str, isA_lst_str, isA_int_tup, isA_bool_tup, isA_str_tup, isA_tup_tup, isA_lst_tup, isA_int_bl, isA_bool_bl, isA_str_bl, isA_tup_bl, isA_lst_bl, dAdd_int, dAdd_str, dAdd_tup, dAdd_ref, dSub_int, dLt_int, dLe_int, dGt_int, dGe_int, dMul_int, dMul_str, dMul_ref, dMod_int, dFdiv_int, dPow_int, dIsN_, dNotN_, isNon_int, isNon_non, dEq_str, dEq_int, dNe_str, dNe_int, dIn_sign, dIx_str, dIx_tup, dIx_scr, dIx_ref, dCut_str, dCut_tup, dCut_scr, dCut_ref, bLen_str, bLen_tup, bLen_ref, bInt_int, bInt_bl, bTup_tup, bTup_ref, bList_str, bList_tup, bList_ref, tyD_str, mAppend_ref, mExtend_ref, tyL, dSetL_ref, mJoin_ref, bMin_ref, bMax_ref, atI_0, atI_1, atI_2]
    refine ⟨rfl, by omega, fun xs c p nc np => ⟨by decide, ?_⟩⟩
    have P : Pen (put (put h c (.lst (xs.map D.int))) p (.lst [.ref c, .int 0, .int 0])) p 0 := ⟨c, 0, 0, xs, put_same, put_old put_same np, by omega, by omega⟩
    generalize put (put h c (.lst (xs.map D.int))) p (.lst [.ref c, .int 0, .int 0]) = g at P
    refine forB_inv (fun i δ h' => i ≤ 8 ∧ (∃ s2 s3 s4 s5 s6 s7 s8 s9 s10 s11, δ = [some (.scr ns), some (.ref p), s2, s3, s4, s5, s6, s7, s8, s9, s10, s11]) ∧ Pen h' p (500 * i))
      ⟨by omega, ⟨_, _, _, _, _, _, _, _, _, _, rfl⟩, by simpa using P⟩ (fun _ _ _ _ => True.intro) ?_ ?_
    · rintro δ g ⟨_, ⟨s2, s3, s4, s5, s6, s7, s8, s9, s10, s11, rfl⟩, _⟩
      exact t2 _ _ _ _ _ _ _ _ _ _ _ _ _
    · rintro i d δ g hd ⟨hi, ⟨s2, s3, s4, s5, s6, s7, s8, s9, s10, s11, rfl⟩, P⟩
      obtain ⟨hin, rfl⟩ := rngD_get hd
      simp only [forall_const, true_implies, false_implies, implies_true, and_true, true_and, reduceCtorEq, Bool.not_true, Bool.not_false, Bool.true_xor, Bool.false_xor, Option.some.injEq, exists_eq_left', put_same, onB_bl, dSeq, dNext, dBreak, dDrop, dRet, dRetN, dIfS, dName, dgNil, dgCons, dgTup, dAsg, dPar, dPar3, dSetI, dgSub, dRaise, dVar, dC, dOp, dTest, dAnd, dOr, dNot, dAndV, dOrV, dNotV, dIf, dNil, dCons, dTup, dLst, dCall, dCB, dMt, dMt0, dInC, dIxC, dChain, dNeg, dNoPart, dPart, dSl, exE, dIsA, dCat, catchD, subE, Ex.ix, endsD, dLc, dISeq, dIRng1, dIRng2, dIEnum, dFor, dDcT, dDcK, dCallV, mStarts_str, List.getElem?_cons_zero, List.getElem?_cons_succ, List.set_cons_zero, List.set_cons_succ, onL_lst, isA_non, isA_int_int, isA_bool_int, isA_str_int, isA_tup_int, isA_lst_int, isA_int_str, isA_bool_str, isA_str_str, isA_tup_str, isA_lst_str, isA_int_tup, isA_bool_tup, isA_str_tup, isA_tup_tup, isA_lst_tup, isA_int_bl, isA_bool_bl, isA_str_bl, isA_tup_bl, isA_lst_bl, dAdd_int, dAdd_str, dAdd_tup, dAdd_ref, dSub_int, dLt_int, dLe_int, dGt_int, dGe_int, dMul_int, dMul_str, dMul_ref, dMod_int, dFdiv_int, dPow_int, dIsN_, dNotN_, isNon_int, isNon_non, dEq_str, dEq_int, dNe_str, dNe_int, dIn_sign, dIx_str, dIx_tup, dIx_scr, dIx_ref, dCut_str, dCut_tup, dCut_scr, dCut_ref, bLen_str, bLen_tup, bLen_ref, bInt_int, bInt_bl, bTup_tup, bTup_ref, bList_str, bList_tup, bList_ref, tyD_str, mAppend_ref, mExtend_ref, tyL, dSetL_ref, mJoin_ref, bMin_ref, bMax_ref, atI_0, atI_1, atI_2]
      refine ⟨by show (4 : Nat) ≤ sizeLine; omega, fun r nr => one_mv P (mv_refl P) (by omega) (by simp) (by simp) (fun d hd g M => ?_) r nr⟩
      have hk : ∃ k, d = .str k ∧ (k = kF ∨ k = kO ∨ k = kD) := by
        simp only [List.mem_cons, List.mem_nil_iff, or_false] at hd
        rcases hd with rfl | rfl | rfl | rfl
        · exact ⟨_, rfl, .inl rfl⟩
        · exact ⟨_, rfl, .inr (.inl rfl)⟩
        · exact ⟨_, rfl, .inr (.inr rfl)⟩
        · exact ⟨_, rfl, .inr (.inr rfl)⟩
      obtain ⟨k, rfl, hk⟩ := hk
      have hb : ∃ m : Int, k_BOUNDS k = some (.int m) ∧ ((k == kD) = true → m = 2) ∧ ((k == kD) = false → m = 3) := by
        rcases hk with rfl | rfl | rfl
        · exact ⟨3, rfl, fun z => (by cases z), fun _ => rfl⟩
        · exact ⟨3, rfl, fun z => (by cases z), fun _ => rfl⟩
        · exact ⟨2, rfl, fun _ => rfl, fun z => (by cases z)⟩
      obtain ⟨bd, eb, hb2, hb3⟩ := hb
      simp only [forall_const, true_implies, false_implies, implies_true, and_true, true_and, reduceCtorEq, Bool.not_true, Bool.not_false, Bool.true_xor, Bool.false_xor, Option.some.injEq, exists_eq_left', put_same, onB_bl, dSeq, dNext, dBreak, dDrop, dRet, dRetN, dIfS, dName, dgNil, dgCons, dgTup, dAsg, dPar, dPar3, dSetI, dgSub, dRaise, dVar, dC, dOp, dTest, dAnd, dOr, dNot, dAndV, dOrV, dNotV, dIf, dNil, dCons, dTup, dLst, dCall, dCB, dMt, dMt0, dInC, dIxC, dChain, dNeg, dNoPart, dPart, dSl, exE, dIsA, dCat, catchD, subE, Ex.ix, endsD, dLc, dISeq, dIRng1, dIRng2, dIEnum, dFor, dDcT, dDcK, dCallV, mStarts_str, List.getElem?_cons_zero, List.getElem?_cons_succ, List.set_cons_zero, List.set_cons_succ, onL_lst, isA_non, isA_int_int, isA_bool_int, isA_str_int, isA_tup_int, isA_lst_int, isA_int_str, isA_bool_str, isA_str_str, isA_tup_str, isA_lst_str, isA_int_tup, isA_bool_tup, isA_str_tup, isA_tup_tup, isA_lst_tup, isA_int_bl, isA_bool_bl, isA_str_bl, isA_tup_bl, isA_lst_bl, dAdd_int, dAdd_str, dAdd_tup, dAdd_ref, dSub_int, dLt_int, dLe_int, dGt_int, dGe_int, dMul_int, dMul_str, dMul_ref, dMod_int, dFdiv_int, dPow_int, dIsN_, dNotN_, isNon_int, isNon_non, dEq_str, dEq_int, dNe_str, dNe_int, dIn_sign, dIx_str, dIx_tup, dIx_scr, dIx_ref, dCut_str, dCut_tup, dCut_scr, dCut_ref, bLen_str, bLen_tup, bLen_ref, bInt_int, bInt_bl, bTup_tup, bTup_ref, bList_str, bList_tup, bList_ref, tyD_str, mAppend_ref, mExtend_ref, tyL, dSetL_ref, mJoin_ref, bMin_ref, bMax_ref, atI_0, atI_1, atI_2]
      refine ⟨fun e => ?_, fun e => ?_⟩ <;> (
        have hbd : (bd = 2 ∨ bd = 3) := by first | exact .inl (hb2 e) | exact .inr (hb3 e)
        have hbd2 : (bd = 2 ∧ (k == kD) = true) ∨ (bd = 3 ∧ (k == kD) = false) := by first | exact .inl ⟨hb2 e, e⟩ | exact .inr ⟨hb3 e, e⟩
        have hcase : (k == kD) = (k == kD) := rfl
        refine take_mv P M (by omega) (by omega) (by omega) fun n g1 n0 n1 M1 => ?_
        have nb : 1 + n ≤ bd := by first | (have := hb2 e; omega) | (have := hb3 e; omega)
        simp only [forall_const, true_implies, false_implies, implies_true, and_true, true_and, reduceCtorEq, Bool.not_true, Bool.not_false, Bool.true_xor, Bool.false_xor, Option.some.injEq, exists_eq_left', put_same, onB_bl, dSeq, dNext, dBreak, dDrop, dRet, dRetN, dIfS, dName, dgNil, dgCons, dgTup, dAsg, dPar, dPar3, dSetI, dgSub, dRaise, dVar, dC, dOp, dTest, dAnd, dOr, dNot, dAndV, dOrV, dNotV, dIf, dNil, dCons, dTup, dLst, dCall, dCB, dMt, dMt0, dInC, dIxC, dChain, dNeg, dNoPart, dPart, dSl, exE, dIsA, dCat, catchD, subE, Ex.ix, endsD, dLc, dISeq, dIRng1, dIRng2, dIEnum, dFor, dDcT, dDcK, dCallV, mStarts_str, List.getElem?_cons_zero, List.getElem?_cons_succ, List.set_cons_zero, List.set_cons_succ, onL_lst, isA_non, isA_int_int, isA_bool_int, isA_str_int, isA_tup_int, isA_lst_int, isA_int_str, isA_bool_str, isA_str_str, isA_tup_str, isA_lst_str, isA_int_tup, isA_bool_tup, isA_str_tup, isA_tup_tup, isA_lst_tup, isA_int_bl, isA_bool_bl, isA_str_bl, isA_tup_bl, isA_lst_bl, dAdd_int, dAdd_str, dAdd_tup, dAdd_ref, dSub_int, dLt_int, dLe_int, dGt_int, dGe_int, dMul_int, dMul_str, dMul_ref, dMod_int, dFdiv_int, dPow_int, dIsN_, dNotN_, isNon_int, isNon_non, dEq_str, dEq_int, dNe_str, dNe_int, dIn_sign, dIx_str, dIx_tup, dIx_scr, dIx_ref, dCut_str, dCut_tup, dCut_scr, dCut_ref, bLen_str, bLen_tup, bLen_ref, bInt_int, bInt_bl, bTup_tup, bTup_ref, bList_str, bList_tup, bList_ref, tyD_str, mAppend_ref, mExtend_ref, tyL, dSetL_ref, mJoin_ref, bMin_ref, bMax_ref, atI_0, atI_1, atI_2]
        refine take_mv P M1 (by omega) (by omega) (by omega) fun a g2 a0 a1 M2 => ⟨by show (3 : Nat) ≤ sizeLine; omega, ?_⟩
        have hr : isRule (.tup [.str k, .int a, .int (1 + n)]) = true := isRule_mk eb (by omega) (by omega) nb
        refine ⟨rfl, pen_le (mv_pen P M2) (by omega), by omega, by omega, by omega, fun z g3 lz M3 => ?_⟩
        have M3 := mv_moved M2 M3
        simp only [forall_const, true_implies, false_implies, implies_true, and_true, true_and, reduceCtorEq, Bool.not_true, Bool.not_false, Bool.true_xor, Bool.false_xor, Option.some.injEq, exists_eq_left', put_same, onB_bl, dSeq, dNext, dBreak, dDrop, dRet, dRetN, dIfS, dName, dgNil, dgCons, dgTup, dAsg, dPar, dPar3, dSetI, dgSub, dRaise, dVar, dC, dOp, dTest, dAnd, dOr, dNot, dAndV, dOrV, dNotV, dIf, dNil, dCons, dTup, dLst, dCall, dCB, dMt, dMt0, dInC, dIxC, dChain, dNeg, dNoPart, dPart, dSl, exE, dIsA, dCat, catchD, subE, Ex.ix, endsD, dLc, dISeq, dIRng1, dIRng2, dIEnum, dFor, dDcT, dDcK, dCallV, mStarts_str, List.getElem?_cons_zero, List.getElem?_cons_succ, List.set_cons_zero, List.set_cons_succ, onL_lst, isA_non, isA_int_int, isA_bool_int, isA_str_int, isA_tup_int, isA_lst_int, isA_int_str, isA_bool_str, isA_str_str, isA_tup_str, isA_lst_str, isA_int_tup, isA_bool_tup, isA_str_tup, isA_tup_tup, isA_lst_tup, isA_int_bl, isA_bool_bl, isA_str_bl, isA_tup_bl, isA_lst_bl, dAdd_int, dAdd_str, dAdd_tup, dAdd_ref, dSub_int, dLt_int, dLe_int, dGt_int, dGe_int, dMul_int, dMul_str, dMul_ref, dMod_int, dFdiv_int, dPow_int, dIsN_, dNotN_, isNon_int, isNon_non, dEq_str, dEq_int, dNe_str, dNe_int, dIn_sign, dIx_str, dIx_tup, dIx_scr, dIx_ref, dCut_str, dCut_tup, dCut_scr, dCut_ref, bLen_str, bLen_tup, bLen_ref, bInt_int, bInt_bl, bTup_tup, bTup_ref, bList_str, bList_tup, bList_ref, tyD_str, mAppend_ref, mExtend_ref, tyL, dSetL_ref, mJoin_ref, bMin_ref, bMax_ref, atI_0, atI_1, atI_2]
        refine ⟨rfl, pen_le (mv_pen P M3) (by omega), by omega, by omega, by omega, lz, fun x y g4 rw ox oy M4 nw => ?_⟩
        have M4 := mv_moved M3 M4
        have M5 := mv_new (o := .lst [.str x, .str y]) M4 nw
        have ew : put g4 rw (.lst [.str x, .str y]) rw = some (.lst [.str x, .str y]) := put_same
        have P5 : Pen (put g4 rw (.lst [.str x, .str y])) p (500 * (i + 1)) := pen_le (mv_pen P M5) (by omega)
        generalize put g4 rw (.lst [.str x, .str y]) = g5 at ew P5
        simp only [ew]
        have okz := likeR_ok lz
        have lz16 := lz.1
        refine ⟨fun t acc g' => t ≤ 2 ∧ Less g5 g' ∧ acc = (([x, y].take t).filter fun u => decide (z ∈ readW k u a.toNat (1 + n).toNat)).map D.str, ⟨by omega, Less.refl, rfl⟩, ?_⟩
        rintro t acc g6 ⟨ht, l6, rfl⟩
        refine ⟨l6 _ _ ew, fun et ru nu => ?_, fun du hdu => ?_⟩
        · have et : t = 2 := et
          subst et
          have eu : put g6 ru (.lst ((([x, y].take 2).filter fun u => decide (z ∈ readW k u a.toNat (1 + n).toNat)).map D.str)) ru = some (.lst ((([x, y].take 2).filter fun u => decide (z ∈ readW k u a.toNat (1 + n).toNat)).map D.str)) := put_same
          have l7 := less_new (o := .lst ((([x, y].take 2).filter fun u => decide (z ∈ readW k u a.toNat (1 + n).toNat)).map D.str)) l6 nu
          generalize put g6 ru (.lst ((([x, y].take 2).filter fun u => decide (z ∈ readW k u a.toNat (1 + n).toNat)).map D.str)) = g7 at eu l7
          have ew7 := l7 _ _ ew
          have nx : i + 1 ≤ 8 ∧ (∃ v2 v3 v4 v5 v6 v7 v8 v9 v10 v11, [some (.scr ns), some (.ref p), some (.int (0 + (i : Int))), s3, some (.str k), some (.int (1 + n)), some (.tup [.str k, .int a, .int (1 + n)]), some (.str z), some (.ref rw), some (.ref ru), s10, s11] = [some (.scr ns), some (.ref p), v2, v3, v4, v5, v6, v7, v8, v9, v10, v11]) ∧ Pen g7 p (500 * ((i + 1 : Nat) : Int)) :=
            ⟨by omega, ⟨_, _, _, _, _, _, _, _, _, _, rfl⟩, pen_less (pen_le P5 (by omega)) l7⟩
          simp only [forall_const, true_implies, false_implies, implies_true, and_true, true_and, reduceCtorEq, Bool.not_true, Bool.not_false, Bool.true_xor, Bool.false_xor, Option.some.injEq, exists_eq_left', put_same, onB_bl, dSeq, dNext, dBreak, dDrop, dRet, dRetN, dIfS, dName, dgNil, dgCons, dgTup, dAsg, dPar, dPar3, dSetI, dgSub, dRaise, dVar, dC, dOp, dTest, dAnd, dOr, dNot, dAndV, dOrV, dNotV, dIf, dNil, dCons, dTup, dLst, dCall, dCB, dMt, dMt0, dInC, dIxC, dChain, dNeg, dNoPart, dPart, dSl, exE, dIsA, dCat, catchD, subE, Ex.ix, endsD, dLc, dISeq, dIRng1, dIRng2, dIEnum, dFor, dDcT, dDcK, dCallV, mStarts_str, List.getElem?_cons_zero, List.getElem?_cons_succ, List.set_cons_zero, List.set_cons_succ, onL_lst, isA_non, isA_int_int, isA_bool_int, isA_str_int, isA_tup_int, isA_lst_int, isA_int_str, isA_bool_str, isA_str_str, isA_tup_str, isA_lst_str, isA_int_tup, isA_bool_tup, isA_str_tup, isA_tup_tup, isA_lst_tup, isA_int_bl, isA_bool_bl, isA_str_bl, isA_tup_bl, isA_lst_bl, dAdd_int, dAdd_str, dAdd_tup, dAdd_ref, dSub_int, dLt_int, dLe_int, dGt_int, dGe_int, dMul_int, dMul_str, dMul_ref, dMod_int, dFdiv_int, dPow_int, dIsN_, dNotN_, isNon_int, isNon_non, dEq_str, dEq_int, dNe_str, dNe_int, dIn_sign, dIx_str, dIx_tup, dIx_scr, dIx_ref, dCut_str, dCut_tup, dCut_scr, dCut_ref, bLen_str, bLen_tup, bLen_ref, bInt_int, bInt_bl, bTup_tup, bTup_ref, bList_str, bList_tup, bList_ref, tyD_str, mAppend_ref, mExtend_ref, tyL, dSetL_ref, mJoin_ref, bMin_ref, bMax_ref, atI_0, atI_1, atI_2, eu, ew7]
          refine ⟨fun hl => ⟨fun hne => ?_, fun _ => nx⟩, fun _ => nx⟩
          have hl : ((([x, y].take 2).filter fun u => decide (z ∈ readW k u a.toNat (1 + n).toNat)).map D.str).length = 2 := by
            have hl := eq_of_beq hl
            omega
          rw [List.length_map] at hl
          obtain ⟨zx, zy⟩ := filt2 hl
          have nxy : x ≠ y := by simpa using hne
          refine ⟨rfl, hk, hr, x, y, ew7, ox, oy, nxy, by omega, okz, by simpa using zx, by simpa using zy, ?_⟩
          first | exact nx | (simp only [forall_const, true_implies, false_implies, implies_true, and_true, true_and, reduceCtorEq, Bool.not_true, Bool.not_false, Bool.true_xor, Bool.false_xor, Option.some.injEq, exists_eq_left', put_same, onB_bl, dSeq, dNext, dBreak, dDrop, dRet, dRetN, dIfS, dName, dgNil, dgCons, dgTup, dAsg, dPar, dPar3, dSetI, dgSub, dRaise, dVar, dC, dOp, dTest, dAnd, dOr, dNot, dAndV, dOrV, dNotV, dIf, dNil, dCons, dTup, dLst, dCall, dCB, dMt, dMt0, dInC, dIxC, dChain, dNeg, dNoPart, dPart, dSl, exE, dIsA, dCat, catchD, subE, Ex.ix, endsD, dLc, dISeq, dIRng1, dIRng2, dIEnum, dFor, dDcT, dDcK, dCallV, mStarts_str, List.getElem?_cons_zero, List.getElem?_cons_succ, List.set_cons_zero, List.set_cons_succ, onL_lst, isA_non, isA_int_int, isA_bool_int, isA_str_int, isA_tup_int, isA_lst_int, isA_int_str, isA_bool_str, isA_str_str, isA_tup_str, isA_lst_str, isA_int_tup, isA_bool_tup, isA_str_tup, isA_tup_tup, isA_lst_tup, isA_int_bl, isA_bool_bl, isA_str_bl, isA_tup_bl, isA_lst_bl, dAdd_int, dAdd_str, dAdd_tup, dAdd_ref, dSub_int, dLt_int, dLe_int, dGt_int, dGe_int, dMul_int, dMul_str, dMul_ref, dMod_int, dFdiv_int, dPow_int, dIsN_, dNotN_, isNon_int, isNon_non, dEq_str, dEq_int, dNe_str, dNe_int, dIn_sign, dIx_str, dIx_tup, dIx_scr, dIx_ref, dCut_str, dCut_tup, dCut_scr, dCut_ref, bLen_str, bLen_tup, bLen_ref, bInt_int, bInt_bl, bTup_tup, bTup_ref, bList_str, bList_tup, bList_ref, tyD_str, mAppend_ref, mExtend_ref, tyL, dSetL_ref, mJoin_ref, bMin_ref, bMax_ref, atI_0, atI_1, atI_2]; exact nx)
        · have hdu' : ∃ u, du = .str u ∧ okS u ∧ t < 2 ∧ ([x, y].take (t + 1)) = ([x, y].take t) ++ [u] := by
            have : t = 0 ∨ t = 1 := by
              have := (List.getElem?_eq_some_iff.mp hdu).1
              simp at this
              omega
            rcases this with rfl | rfl
            · simp at hdu
              exact ⟨x, hdu.symm, ox, by omega, rfl⟩
            · simp at hdu
              exact ⟨y, hdu.symm, oy, by omega, rfl⟩
          obtain ⟨u, rfl, ou, ht2, eT⟩ := hdu'
          have lu := ou.1
          refine ⟨_, rfl, ?_⟩
          show [D.tup [.str k, .int a, .int (1 + n)], .str u].length = 2 ∧ sp__law_readings [D.tup [.str k, .int a, .int (1 + n)], .str u] g6 (fun y1 h2 => dIn false (.str z) y1 h2 fun d h1 => onB d fun b => _) nox
          refine ⟨rfl, rule_kind hr, okS_ok ou, by omega, by omega, by omega, by omega, fun r1 m1 => dIn_rs put_same ?_⟩
          simp only [onB_, Bool.false_xor]
          rw [eT, List.filter_append, List.map_append]
          refine ⟨fun hz => ?_, fun hz => ?_⟩
          · show (_ : Nat) < sizeLine ∧ _
            refine ⟨?_, by omega, less_new l6 m1, by simp [hz]⟩
            rw [List.length_map]
            have := List.length_filter_le (fun u => decide (z ∈ readW k u a.toNat (1 + n).toNat)) ([x, y].take t)
            rw [List.length_take] at this
            omega
          · exact ⟨by omega, less_new l6 m1, by simp [hz]⟩)
end Tw

namespace Tw
open PySem PySem.Spec PyProof.Rows L2 Hk44
theorem sc_is_within : FnScope N_is_within ["thing", "least", "most"] (defScope s_is_within) := ⟨rfl, rfl, rfl, by decide +kernel, rfl, by decide +kernel, by decide +kernel⟩
theorem w_is_within {P : Program} {w : World} {K : PySem.W.Frag} {mg : Str → Option Value} {base : Heap} {T : Tb} (n_isinstance : mg "isinstance" = none) (n_int : mg "int" = none) (n_bool : mg "bool" = none) {f : Addr} {fd : FuncData} (F : FunD K "is_within" "is_within" (defArgs s_is_within) (defBody s_is_within) (defScope s_is_within) [] [] f fd) :
    FnOk P w K mg base (L2.CX P w) 1 f fd ["thing", "least", "most"] (lift ⟨K, w, T⟩ 3 sp_is_within) :=
  fnD F sc_is_within fun cdv A outer s H E hr tk hp => by
    have hu := hu_of hr
    have nd := sc_is_within.nd
    exact ⟨m_is_within, (ds_one (ds_ret (de_and (de_isA (t := .int) bt_int rfl n_int rfl n_isinstance (de_var (i := 0) rfl (vis_by rfl))) (de_and (de_not (de_isA (t := .bool) bt_bool rfl n_bool rfl n_isinstance (de_var (i := 0) rfl (vis_by rfl)))) (de_one (de_chain or_le or_le (de_var (i := 1) rfl (vis_by rfl)) (de_var (i := 0) rfl (vis_by rfl)) (de_var (i := 2) rfl (vis_by rfl)))))))), ok_is_within⟩

theorem sc_is_made_of : FnScope N_is_made_of ["text", "letters"] (defScope s_is_made_of) := ⟨rfl, rfl, rfl, by decide +kernel, rfl, by decide +kernel, by decide +kernel⟩
theorem w_is_made_of {P : Program} {w : World} {K : PySem.W.Frag} {mg : Str → Option Value} {base : Heap} {T : Tb} (n_all : mg "all" = none) {f : Addr} {fd : FuncData} (F : FunD K "is_made_of" "is_made_of" (defArgs s_is_made_of) (defBody s_is_made_of) (defScope s_is_made_of) [] [] f fd) :
    FnOk P w K mg base (L2.CX P w) 1 f fd ["text", "letters"] (lift ⟨K, w, T⟩ 2 sp_is_made_of) :=
  fnD F sc_is_made_of fun cdv A outer s H E hr tk hp => by
    have hu := hu_of hr
    have nd := sc_is_made_of.nd
    exact ⟨m_is_made_of, (ds_one (ds_ret (de_callB (cd_all rfl) rfl n_all bt_all (da_cons (de_lc (own := [("sign", 2)]) rfl nd (di_seq (de_var (i := 0) rfl (vis_by rfl))) (blkOk_by rfl) (by decide) (fun _ _ _ _ _ => (pg_name (i := 2) nd rfl (loc_by rfl))) (fun _ _ _ _ _ => dts_nil) (fun _ _ _ _ _ => (de_cmp (or_in hu) (de_var (i := 2) rfl (vis_by rfl)) (de_var (i := 1) rfl (vis_by rfl))))) da_nil)))), ok_is_made_of⟩

theorem sc_is_text : FnScope N_is_text ["thing", "letters"] (defScope s_is_text) := ⟨rfl, rfl, rfl, by decide +kernel, rfl, by decide +kernel, by decide +kernel⟩
theorem w_is_text {P : Program} {w : World} {K : PySem.W.Frag} {mg : Str → Option Value} {base : Heap} {T : Tb} (n_isinstance : mg "isinstance" = none) (n_str : mg "str" = none) (n_len : mg "len" = none) (c_MOST_SIGNS : ∃ t, mg "MOST_SIGNS" = some (.int 200 t)) (H_is_made_of : Has P w K mg base T 1 "is_made_of" ["text", "letters"] sp_is_made_of) {f : Addr} {fd : FuncData} (F : FunD K "is_text" "is_text" (defArgs s_is_text) (defBody s_is_text) (defScope s_is_text) [] [] f fd) :
    FnOk P w K mg base (L2.CX P w) 2 f fd ["thing", "letters"] (lift ⟨K, w, T⟩ 2 sp_is_text) :=
  fnD F sc_is_text fun cdv A outer s H E hr tk hp => by
    have hu := hu_of hr
    have nd := sc_is_text.nd
    exact ⟨m_is_text, (ds_one (ds_ret (de_and (de_isA (t := .str) bt_str rfl n_str rfl n_isinstance (de_var (i := 0) rfl (vis_by rfl))) (de_and (de_cmp or_le (de_callB cd_len rfl n_len bt_len (da_cons (de_var (i := 0) rfl (vis_by rfl)) da_nil)) (de_gi c_MOST_SIGNS rfl)) (de_one (de_fn H_is_made_of rfl hr (by decide) rfl tk (da_cons (de_var (i := 0) rfl (vis_by rfl)) (da_cons (de_var (i := 1) rfl (vis_by rfl)) da_nil)))))))), ok_is_text⟩

theorem sc_need_text : FnScope N_need_text ["thing", "letters"] (defScope s_need_text) := ⟨rfl, rfl, rfl, by decide +kernel, rfl, by decide +kernel, by decide +kernel⟩
theorem w_need_text {P : Program} {w : World} {K : PySem.W.Frag} {mg : Str → Option Value} {base : Heap} {T : Tb} (H_is_text : Has P w K mg base T 2 "is_text" ["thing", "letters"] sp_is_text) (X_NoWord : HasEx K mg T "NoWord" .word) {f : Addr} {fd : FuncData} (F : FunD K "need_text" "need_text" (defArgs s_need_text) (defBody s_need_text) (defScope s_need_text) [] [] f fd) :
    FnOk P w K mg base (L2.CX P w) 3 f fd ["thing", "letters"] (lift ⟨K, w, T⟩ 2 sp_need_text) :=
  fnD F sc_need_text fun cdv A outer s H E hr tk hp => by
    have hu := hu_of hr
    have nd := sc_need_text.nd
    exact ⟨m_need_text, (ds_one (ds_if (dt_not (dt_val (de_fn H_is_text rfl hr (by decide) rfl tk (da_cons (de_var (i := 0) rfl (vis_by rfl)) (da_cons (de_var (i := 1) rfl (vis_by rfl)) da_nil))))) (ds_one (ds_raise (C := .word) rfl tk PySem.F.excBase_ValueError X_NoWord.ok X_NoWord.at_ X_NoWord.kp (raises_own X_NoWord.sub X_NoWord.ty) rfl)) ds_nil)), ok_need_text⟩

theorem sc_in_order : FnScope N_in_order ["words"] (defScope s_in_order) := ⟨rfl, rfl, rfl, by decide +kernel, rfl, by decide +kernel, by decide +kernel⟩
theorem w_in_order {P : Program} {w : World} {K : PySem.W.Frag} {mg : Str → Option Value} {base : Heap} {T : Tb} (n_sorted : mg "sorted" = none) (n_len : mg "len" = none) {f : Addr} {fd : FuncData} (F : FunD K "in_order" "in_order" (defArgs s_in_order) (defBody s_in_order) (defScope s_in_order) [] [] f fd) :
    FnOk P w K mg base (L2.CX P w) 1 f fd ["words"] (lift ⟨K, w, T⟩ 1 sp_in_order) :=
  fnD F sc_in_order fun cdv A outer s H E hr tk hp => by
    have hu := hu_of hr
    have nd := sc_in_order.nd
    exact ⟨m_in_order, (ds_one (ds_ret (de_lc (own := [("size", 1), ("word", 2)]) rfl nd (di_seq (de_callB (cd_sorted rfl (hu_64 hu)) rfl n_sorted bt_sorted (da_cons (de_dcT (own := [("word", 2)]) rfl nd (hu_8 hu) (di_seq (de_var (i := 0) rfl (vis_by rfl))) (blkOk_by rfl) (by decide) (fun _ _ _ _ _ => (pg_name (i := 2) nd rfl (loc_by rfl))) (fun _ _ _ _ _ => dts_nil) (fun _ _ _ _ _ => (de_tup (da_cons (de_callB cd_len rfl n_len bt_len (da_cons (de_var (i := 2) rfl (vis_by rfl)) da_nil)) (da_cons (de_var (i := 2) rfl (vis_by rfl)) da_nil)))) (fun _ _ _ _ _ => de_bl)) da_nil))) (blkOk_by rfl) (by decide) (fun _ _ _ _ _ => (pg_tup rfl (pgs_cons (pg_name (i := 1) nd rfl (loc_by rfl)) (pgs_cons (pg_name (i := 2) nd rfl (loc_by rfl)) pgs_nil)))) (fun _ _ _ _ _ => dts_nil) (fun _ _ _ _ _ => (de_var (i := 2) rfl (vis_by rfl)))))), ok_in_order⟩

theorem sc_is_rule : FnScope N_is_rule ["thing"] (defScope s_is_rule) := ⟨rfl, rfl, rfl, by decide +kernel, rfl, by decide +kernel, by decide +kernel⟩
theorem w_is_rule {P : Program} {w : World} {K : PySem.W.Frag} {mg : Str → Option Value} {base : Heap} {T : Tb} (n_isinstance : mg "isinstance" = none) (n_tuple : mg "tuple" = none) (n_len : mg "len" = none) (n_str : mg "str" = none) (K_BOUNDS : HasKD P w K mg "BOUNDS" k_BOUNDS) (H_is_within : Has P w K mg base T 1 "is_within" ["thing", "least", "most"] sp_is_within) {f : Addr} {fd : FuncData} (F : FunD K "is_rule" "is_rule" (defArgs s_is_rule) (defBody s_is_rule) (defScope s_is_rule) [] [] f fd) :
    FnOk P w K mg base (L2.CX P w) 2 f fd ["thing"] (lift ⟨K, w, T⟩ 1 sp_is_rule) :=
  fnD F sc_is_rule fun cdv A outer s H E hr tk hp => by
    have hu := hu_of hr
    have nd := sc_is_rule.nd
    exact ⟨m_is_rule, (ds_cons (ds_if (DW.t (dw_or (dt_not (dt_val (de_isA (t := .tup) bt_tuple rfl n_tuple rfl n_isinstance (de_var (i := 0) rfl (vis_by rfl))))) (dw_or (dt_cmp (or_ne (hu_64 hu)) (de_callB cd_len rfl n_len bt_len (da_cons (de_var (i := 0) rfl (vis_by rfl)) da_nil)) de_int) (dw_or (dt_not (dt_val (de_isA (t := .str) bt_str rfl n_str rfl n_isinstance (de_ix ix_d (de_var (i := 0) rfl (vis_by rfl)) de_int fun _ _ => rfl)))) (dw_or1 (dt_notInC K_BOUNDS rfl (de_ix ix_d (de_var (i := 0) rfl (vis_by rfl)) de_int fun _ _ => rfl))))))) (ds_one (ds_ret de_bl)) ds_nil) (ds_one (ds_ret (de_and (de_fn H_is_within rfl hr (by decide) rfl tk (da_cons (de_ix ix_d (de_var (i := 0) rfl (vis_by rfl)) de_int fun _ _ => rfl) (da_cons de_int (da_cons (de_ixC K_BOUNDS rfl (de_ix ix_d (de_var (i := 0) rfl (vis_by rfl)) de_int fun _ _ => rfl) fun _ _ => rfl) da_nil)))) (de_one (de_fn H_is_within rfl hr (by decide) rfl tk (da_cons (de_ix ix_d (de_var (i := 0) rfl (vis_by rfl)) de_int fun _ _ => rfl) (da_cons de_int (da_cons (de_ix ix_d (de_var (i := 0) rfl (vis_by rfl)) de_int fun _ _ => rfl) da_nil))))))))), ok_is_rule⟩

theorem sc_raw_tear : FnScope N_raw_tear ["kind", "word", "at", "size"] (defScope s_raw_tear) := ⟨rfl, rfl, rfl, by decide +kernel, rfl, by decide +kernel, by decide +kernel⟩
theorem w_raw_tear {P : Program} {w : World} {K : PySem.W.Frag} {mg : Str → Option Value} {base : Heap} {T : Tb} (c_BLANK : ∃ t, mg "BLANK" = some (.str "?" t)) (c_MARK : ∃ t, mg "MARK" = some (.str "*" t)) {f : Addr} {fd : FuncData} (F : FunD K "raw_tear" "raw_tear" (defArgs s_raw_tear) (defBody s_raw_tear) (defScope s_raw_tear) [] [] f fd) :
    FnOk P w K mg base (L2.CX P w) 1 f fd ["kind", "word", "at", "size"] (lift ⟨K, w, T⟩ 4 sp_raw_tear) :=
  fnD F sc_raw_tear fun cdv A outer s H E hr tk hp => by
    have hu := hu_of hr
    have nd := sc_raw_tear.nd
    exact ⟨m_raw_tear, (ds_cons (ds_par3 (i := 4) (j := 5) (l := 6) rfl nd rfl rfl rfl (by decide) (by decide) (by decide) rfl rfl rfl (da_cons (de_slice (de_var (i := 1) rfl (vis_by rfl)) do_none (do_some (de_var (i := 2) rfl (vis_by rfl)))) (da_cons (de_slice (de_var (i := 1) rfl (vis_by rfl)) (do_some (de_var (i := 2) rfl (vis_by rfl))) (do_some (de_bin or_add (de_var (i := 2) rfl (vis_by rfl)) (de_var (i := 3) rfl (vis_by rfl))))) (da_cons (de_slice (de_var (i := 1) rfl (vis_by rfl)) (do_some (de_bin or_add (de_var (i := 2) rfl (vis_by rfl)) (de_var (i := 3) rfl (vis_by rfl)))) do_none) da_nil))) rfl) (ds_cons (ds_if (dt_cmp (or_eq (hu_64 hu)) (de_var (i := 0) rfl (vis_by rfl)) (de_str (z := [102, 97, 100, 101, 100]))) (ds_one (ds_ret (de_bin or_add (de_bin or_add (de_var (i := 4) rfl (vis_by rfl)) (de_bin or_mul (de_gs (z := [63]) c_BLANK rfl rfl) (de_var (i := 3) rfl (vis_by rfl)))) (de_var (i := 6) rfl (vis_by rfl))))) ds_nil) (ds_cons (ds_if (dt_cmp (or_eq (hu_64 hu)) (de_var (i := 0) rfl (vis_by rfl)) (de_str (z := [111, 112, 101, 110]))) (ds_one (ds_ret (de_bin or_add (de_bin or_add (de_var (i := 4) rfl (vis_by rfl)) (de_gs (z := [42]) c_MARK rfl rfl)) (de_var (i := 6) rfl (vis_by rfl))))) ds_nil) (ds_one (ds_ret (de_if (dt_cmp (or_eq (hu_64 hu)) (de_var (i := 0) rfl (vis_by rfl)) (de_str (z := [99, 108, 111, 115, 101, 100]))) (de_bin or_add (de_var (i := 4) rfl (vis_by rfl)) (de_var (i := 6) rfl (vis_by rfl))) (de_bin or_add (de_bin or_add (de_bin or_add (de_var (i := 4) rfl (vis_by rfl)) (de_var (i := 5) rfl (vis_by rfl))) (de_var (i := 5) rfl (vis_by rfl))) (de_var (i := 6) rfl (vis_by rfl))))))))), ok_raw_tear⟩

theorem sc_raw_readings : FnScope N_raw_readings ["rule", "word"] (defScope s_raw_readings) := ⟨rfl, rfl, rfl, by decide +kernel, rfl, by decide +kernel, by decide +kernel⟩
theorem w_raw_readings {P : Program} {w : World} {K : PySem.W.Frag} {mg : Str → Option Value} {base : Heap} {T : Tb} (n_range : mg "range" = none) (n_min : mg "min" = none) (n_len : mg "len" = none) (H_raw_tear : Has P w K mg base T 1 "raw_tear" ["kind", "word", "at", "size"] sp_raw_tear) (H_in_order : Has P w K mg base T 1 "in_order" ["words"] sp_in_order) {f : Addr} {fd : FuncData} (F : FunD K "raw_readings" "raw_readings" (defArgs s_raw_readings) (defBody s_raw_readings) (defScope s_raw_readings) [] [] f fd) :
    FnOk P w K mg base (L2.CX P w) 2 f fd ["rule", "word"] (lift ⟨K, w, T⟩ 2 sp_raw_readings) :=
  fnD F sc_raw_readings fun cdv A outer s H E hr tk hp => by
    have hu := hu_of hr
    have nd := sc_raw_readings.nd
    exact ⟨m_raw_readings, (ds_cons (ds_asg (de_var (i := 0) rfl (vis_by rfl)) (dg_tup rfl (dgs_cons (dg_name (i := 4) nd rfl (loc_by rfl)) (dgs_cons (dg_name (i := 5) nd rfl (loc_by rfl)) (dgs_cons (dg_name (i := 6) nd rfl (loc_by rfl)) dgs_nil))))) (ds_cons (ds_set (i := 2) nd rfl (loc_by rfl) (de_lst da_nil)) (ds_cons (ds_for hp rfl (di_rng2 rfl n_range (da_cons (de_var (i := 5) rfl (vis_by rfl)) (da_cons (de_bin or_add (de_callB (cd_min rfl) rfl n_min bt_min (da_cons (de_lst (da_cons (de_var (i := 6) rfl (vis_by rfl)) (da_cons (de_callB cd_len rfl n_len bt_len (da_cons (de_var (i := 1) rfl (vis_by rfl)) da_nil)) da_nil))) da_nil)) de_int) da_nil))) (dg_name (i := 3) nd rfl (loc_by rfl)) (ds_one (ds_expr (de_mt PySem.F.plainAttrs_list PySem.F.slot_list_extend PySem.F.type_list_extend md_extend (de_var (i := 2) rfl (vis_by rfl)) (da_cons (de_lc (own := [("at", 7)]) rfl nd (di_rng1 rfl n_range (da_cons (de_bin or_add (de_bin or_sub (de_callB cd_len rfl n_len bt_len (da_cons (de_var (i := 1) rfl (vis_by rfl)) da_nil)) (de_var (i := 3) rfl (vis_by rfl))) de_int) da_nil)) (blkOk_by rfl) (by decide) (fun _ _ _ _ _ => (pg_name (i := 7) nd rfl (loc_by rfl))) (fun _ _ _ _ _ => dts_nil) (fun _ _ _ _ _ => (de_fn H_raw_tear rfl hr (by decide) rfl takesF (da_cons (de_var (i := 4) rfl (vis_by rfl)) (da_cons (de_var (i := 1) rfl (vis_by rfl)) (da_cons (de_var (i := 7) rfl (vis_by rfl)) (da_cons (de_var (i := 3) rfl (vis_by rfl)) da_nil))))))) da_nil))))) (ds_one (ds_ret (de_fn H_in_order rfl hr (by decide) rfl tk (da_cons (de_var (i := 2) rfl (vis_by rfl)) da_nil))))))), ok_raw_readings⟩

theorem sc_need_kind : FnScope N_need_kind ["rule", "kinds"] (defScope s_need_kind) := ⟨rfl, rfl, rfl, by decide +kernel, rfl, by decide +kernel, by decide +kernel⟩
theorem w_need_kind {P : Program} {w : World} {K : PySem.W.Frag} {mg : Str → Option Value} {base : Heap} {T : Tb} (H_is_rule : Has P w K mg base T 2 "is_rule" ["thing"] sp_is_rule) (X_NoRule : HasEx K mg T "NoRule" .rule) {f : Addr} {fd : FuncData} (F : FunD K "need_kind" "need_kind" (defArgs s_need_kind) (defBody s_need_kind) (defScope s_need_kind) [] [] f fd) :
    FnOk P w K mg base (L2.CX P w) 3 f fd ["rule", "kinds"] (lift ⟨K, w, T⟩ 2 sp_need_kind) :=
  fnD F sc_need_kind fun cdv A outer s H E hr tk hp => by
    have hu := hu_of hr
    have nd := sc_need_kind.nd
    exact ⟨m_need_kind, (ds_one (ds_if (DW.t (dw_or (dt_not (dt_val (de_fn H_is_rule rfl hr (by decide) rfl tk (da_cons (de_var (i := 0) rfl (vis_by rfl)) da_nil)))) (dw_or1 (dt_cmp (or_notIn hu) (de_ix ix_d (de_var (i := 0) rfl (vis_by rfl)) de_int fun _ _ => rfl) (de_var (i := 1) rfl (vis_by rfl)))))) (ds_one (ds_raise (C := .rule) rfl tk PySem.F.excBase_ValueError X_NoRule.ok X_NoRule.at_ X_NoRule.kp (raises_own X_NoRule.sub X_NoRule.ty) rfl)) ds_nil)), ok_need_kind⟩

theorem sc_need_pair : FnScope N_need_pair ["rule", "word", "other", "reading"] (defScope s_need_pair) := ⟨rfl, rfl, rfl, by decide +kernel, rfl, by decide +kernel, by decide +kernel⟩
theorem w_need_pair {P : Program} {w : World} {K : PySem.W.Frag} {mg : Str → Option Value} {base : Heap} {T : Tb} (H_need_text : Has P w K mg base T 3 "need_text" ["thing", "letters"] sp_need_text) (c_SMALL : ∃ t, mg "SMALL" = some (.str "abcdefghijklmnopqrstuvwxyz" t)) (X_NoWord : HasEx K mg T "NoWord" .word) (n_isinstance : mg "isinstance" = none) (n_str : mg "str" = none) (n_len : mg "len" = none) (c_MOST_SIGNS : ∃ t, mg "MOST_SIGNS" = some (.int 200 t)) (H_raw_readings : Has P w K mg base T 2 "raw_readings" ["rule", "word"] sp_raw_readings) (X_NoReading : HasEx K mg T "NoReading" .reading) {f : Addr} {fd : FuncData} (F : FunD K "need_pair" "need_pair" (defArgs s_need_pair) (defBody s_need_pair) (defScope s_need_pair) [] [] f fd) :
    FnOk P w K mg base (L2.CX P w) 4 f fd ["rule", "word", "other", "reading"] (lift ⟨K, w, T⟩ 4 sp_need_pair) :=
  fnD F sc_need_pair fun cdv A outer s H E hr tk hp => by
    have hu := hu_of hr
    have nd := sc_need_pair.nd
    exact ⟨m_need_pair, (ds_cons (ds_expr (de_fn H_need_text rfl hr (by decide) rfl tk (da_cons (de_var (i := 1) rfl (vis_by rfl)) (da_cons (de_gs (z := [97, 98, 99, 100, 101, 102, 103, 104, 105, 106, 107, 108, 109, 110, 111, 112, 113, 114, 115, 116, 117, 118, 119, 120, 121, 122]) c_SMALL rfl rfl) da_nil)))) (ds_cons (ds_expr (de_fn H_need_text rfl hr (by decide) rfl tk (da_cons (de_var (i := 2) rfl (vis_by rfl)) (da_cons (de_gs (z := [97, 98, 99, 100, 101, 102, 103, 104, 105, 106, 107, 108, 109, 110, 111, 112, 113, 114, 115, 116, 117, 118, 119, 120, 121, 122]) c_SMALL rfl rfl) da_nil)))) (ds_cons (ds_if (dt_cmp (or_eq (hu_64 hu)) (de_var (i := 1) rfl (vis_by rfl)) (de_var (i := 2) rfl (vis_by rfl))) (ds_one (ds_raise (C := .word) rfl tk PySem.F.excBase_ValueError X_NoWord.ok X_NoWord.at_ X_NoWord.kp (raises_own X_NoWord.sub X_NoWord.ty) rfl)) ds_nil) (ds_cons (ds_if (DW.t (dw_or (dt_not (dt_val (de_isA (t := .str) bt_str rfl n_str rfl n_isinstance (de_var (i := 3) rfl (vis_by rfl))))) (dw_or (dt_cmp or_gt (de_callB cd_len rfl n_len bt_len (da_cons (de_var (i := 3) rfl (vis_by rfl)) da_nil)) (de_gi c_MOST_SIGNS rfl)) (dw_or1 (dt_cmp (or_notIn hu) (de_var (i := 3) rfl (vis_by rfl)) (de_fn H_raw_readings rfl hr (by decide) rfl tk (da_cons (de_var (i := 0) rfl (vis_by rfl)) (da_cons (de_var (i := 1) rfl (vis_by rfl)) da_nil)))))))) (ds_one (ds_raise (C := .reading) rfl tk PySem.F.excBase_ValueError X_NoReading.ok X_NoReading.at_ X_NoReading.kp (raises_own X_NoReading.sub X_NoReading.ty) rfl)) ds_nil) (ds_one (ds_if (dt_cmp (or_notIn hu) (de_var (i := 3) rfl (vis_by rfl)) (de_fn H_raw_readings rfl hr (by decide) rfl tk (da_cons (de_var (i := 0) rfl (vis_by rfl)) (da_cons (de_var (i := 2) rfl (vis_by rfl)) da_nil)))) (ds_one (ds_raise (C := .reading) rfl tk PySem.F.excBase_ValueError X_NoReading.ok X_NoReading.at_ X_NoReading.kp (raises_own X_NoReading.sub X_NoReading.ty) rfl)) ds_nil)))))), ok_need_pair⟩

theorem sc_first_shared : FnScope N_first_shared ["kind", "rule", "word", "other"] (defScope s_first_shared) := ⟨rfl, rfl, rfl, by decide +kernel, rfl, by decide +kernel, by decide +kernel⟩
theorem w_first_shared {P : Program} {w : World} {K : PySem.W.Frag} {mg : Str → Option Value} {base : Heap} {T : Tb} (H_raw_readings : Has P w K mg base T 2 "raw_readings" ["rule", "word"] sp_raw_readings) {f : Addr} {fd : FuncData} (F : FunD K "first_shared" "first_shared" (defArgs s_first_shared) (defBody s_first_shared) (defScope s_first_shared) [] [] f fd) :
    FnOk P w K mg base (L2.CX P w) 3 f fd ["kind", "rule", "word", "other"] (lift ⟨K, w, T⟩ 4 sp_first_shared) :=
  fnD F sc_first_shared fun cdv A outer s H E hr tk hp => by
    have hu := hu_of hr
    have nd := sc_first_shared.nd
    exact ⟨m_first_shared, (ds_cons (ds_set (i := 4) nd rfl (loc_by rfl) (de_dcK (own := [("reading", 5)]) rfl nd (di_seq (de_fn H_raw_readings rfl hr (by decide) rfl tk (da_cons (de_tup (da_cons (de_var (i := 0) rfl (vis_by rfl)) (da_cons (de_ix ix_d (de_var (i := 1) rfl (vis_by rfl)) de_int fun _ _ => rfl) (da_cons (de_ix ix_d (de_var (i := 1) rfl (vis_by rfl)) de_int fun _ _ => rfl) da_nil)))) (da_cons (de_var (i := 3) rfl (vis_by rfl)) da_nil)))) (blkOk_by rfl) (by decide) (fun _ _ _ _ _ => (pg_name (i := 5) nd rfl (loc_by rfl))) (fun _ _ _ _ _ => dts_nil) (fun _ _ _ _ _ => (de_var (i := 5) rfl (vis_by rfl))) (fun _ _ _ _ _ => de_bl))) (ds_one (ds_ret (de_ix ix_d (de_lc (own := [("reading", 5)]) rfl nd (di_seq (de_fn H_raw_readings rfl hr (by decide) rfl tk (da_cons (de_tup (da_cons (de_var (i := 0) rfl (vis_by rfl)) (da_cons (de_ix ix_d (de_var (i := 1) rfl (vis_by rfl)) de_int fun _ _ => rfl) (da_cons (de_ix ix_d (de_var (i := 1) rfl (vis_by rfl)) de_int fun _ _ => rfl) da_nil)))) (da_cons (de_var (i := 2) rfl (vis_by rfl)) da_nil)))) (blkOk_by rfl) (by decide) (fun _ _ _ _ _ => (pg_name (i := 5) nd rfl (loc_by rfl))) (fun _ _ _ _ _ => (dts_one (dt_cmp (or_in hu) (de_var (i := 5) rfl (vis_by rfl)) (de_var (i := 4) rfl (vis_by rfl))))) (fun _ _ _ _ _ => (de_var (i := 5) rfl (vis_by rfl)))) de_int fun _ _ => rfl)))), ok_first_shared⟩

theorem sc_as_open : FnScope N_as_open ["rule", "word", "other", "reading"] (defScope s_as_open) := ⟨rfl, rfl, rfl, by decide +kernel, rfl, by decide +kernel, by decide +kernel⟩
theorem w_as_open {P : Program} {w : World} {K : PySem.W.Frag} {mg : Str → Option Value} {base : Heap} {T : Tb} (H_need_kind : Has P w K mg base T 3 "need_kind" ["rule", "kinds"] sp_need_kind) (H_need_pair : Has P w K mg base T 4 "need_pair" ["rule", "word", "other", "reading"] sp_need_pair) (H_first_shared : Has P w K mg base T 3 "first_shared" ["kind", "rule", "word", "other"] sp_first_shared) {f : Addr} {fd : FuncData} (F : FunD K "as_open" "as_open" (defArgs s_as_open) (defBody s_as_open) (defScope s_as_open) [] [] f fd) :
    FnOk P w K mg base (L2.CX P w) 5 f fd ["rule", "word", "other", "reading"] (lift ⟨K, w, T⟩ 4 sp_as_open) :=
  fnD F sc_as_open fun cdv A outer s H E hr tk hp => by
    have hu := hu_of hr
    have nd := sc_as_open.nd
    exact ⟨m_as_open, (ds_cons (ds_expr (de_fn H_need_kind rfl hr (by decide) rfl tk (da_cons (de_var (i := 0) rfl (vis_by rfl)) (da_cons (de_tup (da_cons (de_str (z := [102, 97, 100, 101, 100])) da_nil)) da_nil)))) (ds_cons (ds_expr (de_fn H_need_pair rfl hr (by decide) rfl tk (da_cons (de_var (i := 0) rfl (vis_by rfl)) (da_cons (de_var (i := 1) rfl (vis_by rfl)) (da_cons (de_var (i := 2) rfl (vis_by rfl)) (da_cons (de_var (i := 3) rfl (vis_by rfl)) da_nil)))))) (ds_one (ds_ret (de_fn H_first_shared rfl hr (by decide) rfl tk (da_cons (de_str (z := [111, 112, 101, 110])) (da_cons (de_var (i := 0) rfl (vis_by rfl)) (da_cons (de_var (i := 1) rfl (vis_by rfl)) (da_cons (de_var (i := 2) rfl (vis_by rfl)) da_nil))))))))), ok_as_open⟩

theorem sc_as_closed : FnScope N_as_closed ["rule", "word", "other", "reading"] (defScope s_as_closed) := ⟨rfl, rfl, rfl, by decide +kernel, rfl, by decide +kernel, by decide +kernel⟩
theorem w_as_closed {P : Program} {w : World} {K : PySem.W.Frag} {mg : Str → Option Value} {base : Heap} {T : Tb} (H_need_kind : Has P w K mg base T 3 "need_kind" ["rule", "kinds"] sp_need_kind) (H_need_pair : Has P w K mg base T 4 "need_pair" ["rule", "word", "other", "reading"] sp_need_pair) (H_first_shared : Has P w K mg base T 3 "first_shared" ["kind", "rule", "word", "other"] sp_first_shared) {f : Addr} {fd : FuncData} (F : FunD K "as_closed" "as_closed" (defArgs s_as_closed) (defBody s_as_closed) (defScope s_as_closed) [] [] f fd) :
    FnOk P w K mg base (L2.CX P w) 5 f fd ["rule", "word", "other", "reading"] (lift ⟨K, w, T⟩ 4 sp_as_closed) :=
  fnD F sc_as_closed fun cdv A outer s H E hr tk hp => by
    have hu := hu_of hr
    have nd := sc_as_closed.nd
    exact ⟨m_as_closed, (ds_cons (ds_expr (de_fn H_need_kind rfl hr (by decide) rfl tk (da_cons (de_var (i := 0) rfl (vis_by rfl)) (da_cons (de_tup (da_cons (de_str (z := [111, 112, 101, 110])) (da_cons (de_str (z := [100, 111, 117, 98, 108, 101, 100])) da_nil))) da_nil)))) (ds_cons (ds_expr (de_fn H_need_pair rfl hr (by decide) rfl tk (da_cons (de_var (i := 0) rfl (vis_by rfl)) (da_cons (de_var (i := 1) rfl (vis_by rfl)) (da_cons (de_var (i := 2) rfl (vis_by rfl)) (da_cons (de_var (i := 3) rfl (vis_by rfl)) da_nil)))))) (ds_one (ds_ret (de_fn H_first_shared rfl hr (by decide) rfl tk (da_cons (de_str (z := [99, 108, 111, 115, 101, 100])) (da_cons (de_var (i := 0) rfl (vis_by rfl)) (da_cons (de_var (i := 1) rfl (vis_by rfl)) (da_cons (de_var (i := 2) rfl (vis_by rfl)) da_nil))))))))), ok_as_closed⟩

theorem sc__law_open : FnScope N__law_open ["script"] (defScope s__law_open) := ⟨rfl, rfl, rfl, by decide +kernel, rfl, by decide +kernel, by decide +kernel⟩
theorem w__law_open {P : Program} {w : World} {K : PySem.W.Frag} {mg : Str → Option Value} {base : Heap} {T : Tb} (n_list : mg "list" = none) (n_enumerate : mg "enumerate" = none) (n_int : mg "int" = none) {f : Addr} {fd : FuncData} (F : FunD K "_law_open" "_law_open" (defArgs s__law_open) (defBody s__law_open) (defScope s__law_open) [] [] f fd) :
    FnOk P w K mg base (L2.CX P w) 1 f fd ["script"] (lift ⟨K, w, T⟩ 1 sp__law_open) :=
  fnD F sc__law_open fun cdv A outer s H E hr tk hp => by
    have hu := hu_of hr
    have nd := sc__law_open.nd
    exact ⟨m__law_open, (ds_cons (ds_set (i := 1) nd rfl (loc_by rfl) (de_callTy (cd_list rfl) rfl n_list bt_list (da_cons (de_slice (de_var (i := 0) rfl (vis_by rfl)) do_none (do_some de_int)) da_nil))) (ds_cons (ds_for hp rfl (di_enum rfl n_enumerate (da_cons (de_slice (de_var (i := 0) rfl (vis_by rfl)) (do_some de_int) (do_some de_int)) da_nil)) (dg_tup rfl (dgs_cons (dg_name (i := 2) nd rfl (loc_by rfl)) (dgs_cons (dg_name (i := 3) nd rfl (loc_by rfl)) dgs_nil))) (ds_one (ds_setI set_l (de_var (i := 1) rfl (vis_by rfl)) (de_bin or_mod (de_callTy cd_int rfl n_int bt_int (da_cons (de_var (i := 2) rfl (vis_by rfl)) da_nil)) de_int) (de_bin or_add (de_ix ix_d (de_var (i := 1) rfl (vis_by rfl)) (de_bin or_mod (de_callTy cd_int rfl n_int bt_int (da_cons (de_var (i := 2) rfl (vis_by rfl)) da_nil)) de_int) fun _ _ => rfl) (de_var (i := 3) rfl (vis_by rfl)))))) (ds_one (ds_ret (de_lst (da_cons (de_var (i := 1) rfl (vis_by rfl)) (da_cons de_int (da_cons de_int da_nil)))))))), ok__law_open⟩

theorem sc__law_spread : FnScope N__law_spread ["cell", "k"] (defScope s__law_spread) := ⟨rfl, rfl, rfl, by decide +kernel, rfl, by decide +kernel, by decide +kernel⟩
theorem w__law_spread {P : Program} {w : World} {K : PySem.W.Frag} {mg : Str → Option Value} {base : Heap} {T : Tb} (n_int : mg "int" = none) {f : Addr} {fd : FuncData} (F : FunD K "_law_spread" "_law_spread" (defArgs s__law_spread) (defBody s__law_spread) (defScope s__law_spread) [] [] f fd) :
    FnOk P w K mg base (L2.CX P w) 1 f fd ["cell", "k"] (lift ⟨K, w, T⟩ 2 sp__law_spread) :=
  fnD F sc__law_spread fun cdv A outer s H E hr tk hp => by
    have hu := hu_of hr
    have nd := sc__law_spread.nd
    exact ⟨m__law_spread, (ds_cons (ds_if (dt_cmp or_ge (de_var (i := 0) rfl (vis_by rfl)) (de_bin or_pow de_int de_int)) (ds_one (ds_ret (de_var (i := 0) rfl (vis_by rfl)))) ds_nil) (ds_cons (ds_set (i := 2) nd rfl (loc_by rfl) (de_lst (da_cons de_int (da_cons de_int (da_cons de_int (da_cons de_int (da_cons de_int (da_cons de_int (da_cons de_int (da_cons de_int da_nil)))))))))) (ds_cons (ds_set (i := 2) nd rfl (loc_by rfl) (de_bin or_add (de_var (i := 2) rfl (vis_by rfl)) (de_lst (da_cons de_int (da_cons de_int (da_cons de_int (da_cons de_int (da_cons de_int da_nil)))))))) (ds_cons (ds_set (i := 3) nd rfl (loc_by rfl) (de_bin or_mul (de_bin or_mod (de_callTy cd_int rfl n_int bt_int (da_cons (de_var (i := 0) rfl (vis_by rfl)) da_nil)) de_int) (de_bin or_add (de_bin or_mul de_int (de_var (i := 1) rfl (vis_by rfl))) de_int))) (ds_cons (ds_set (i := 3) nd rfl (loc_by rfl) (de_bin or_mod (de_callTy cd_int rfl n_int bt_int (da_cons (de_bin or_pow (de_bin or_add (de_bin or_add (de_var (i := 3) rfl (vis_by rfl)) (de_bin or_mul (de_var (i := 1) rfl (vis_by rfl)) de_int)) de_int) de_int) da_nil)) (de_ix ix_d (de_var (i := 2) rfl (vis_by rfl)) (de_bin or_mod (de_callTy cd_int rfl n_int bt_int (da_cons (de_var (i := 1) rfl (vis_by rfl)) da_nil)) de_int) fun _ _ => rfl))) (ds_cons (ds_set (i := 4) nd rfl (loc_by rfl) (de_bin or_mod (de_callTy cd_int rfl n_int bt_int (da_cons (de_bin or_pow (de_bin or_add (de_bin or_add (de_bin or_mul (de_var (i := 3) rfl (vis_by rfl)) (de_bin or_add (de_var (i := 1) rfl (vis_by rfl)) de_int)) (de_bin or_mod (de_callTy cd_int rfl n_int bt_int (da_cons (de_var (i := 0) rfl (vis_by rfl)) da_nil)) de_int)) de_int) de_int) da_nil)) (de_ix ix_d (de_var (i := 2) rfl (vis_by rfl)) (de_bin or_mod (de_callTy cd_int rfl n_int bt_int (da_cons (de_bin or_add (de_var (i := 1) rfl (vis_by rfl)) de_int) da_nil)) de_int) fun _ _ => rfl))) (ds_cons (ds_set (i := 5) nd rfl (loc_by rfl) (de_bin or_mod (de_callTy cd_int rfl n_int bt_int (da_cons (de_bin or_pow (de_bin or_add (de_bin or_add (de_var (i := 4) rfl (vis_by rfl)) (de_bin or_mod (de_callTy cd_int rfl n_int bt_int (da_cons (de_var (i := 3) rfl (vis_by rfl)) da_nil)) de_int)) (de_var (i := 1) rfl (vis_by rfl))) de_int) da_nil)) (de_ix ix_d (de_var (i := 2) rfl (vis_by rfl)) (de_bin or_mod (de_callTy cd_int rfl n_int bt_int (da_cons (de_bin or_add (de_var (i := 1) rfl (vis_by rfl)) de_int) da_nil)) de_int) fun _ _ => rfl))) (ds_one (ds_ret (de_bin or_add (de_bin or_mul (de_bin or_add (de_bin or_mul (de_var (i := 3) rfl (vis_by rfl)) de_int) (de_var (i := 4) rfl (vis_by rfl))) de_int) (de_var (i := 5) rfl (vis_by rfl)))))))))))), ok__law_spread⟩

theorem sc__law_take : FnScope N__law_take ["pen", "many"] (defScope s__law_take) := ⟨rfl, rfl, rfl, by decide +kernel, rfl, by decide +kernel, by decide +kernel⟩
theorem w__law_take {P : Program} {w : World} {K : PySem.W.Frag} {mg : Str → Option Value} {base : Heap} {T : Tb} (n_len : mg "len" = none) (n_int : mg "int" = none) (H__law_spread : Has P w K mg base T 1 "_law_spread" ["cell", "k"] sp__law_spread) {f : Addr} {fd : FuncData} (F : FunD K "_law_take" "_law_take" (defArgs s__law_take) (defBody s__law_take) (defScope s__law_take) [] [] f fd) :
    FnOk P w K mg base (L2.CX P w) 2 f fd ["pen", "many"] (lift ⟨K, w, T⟩ 2 sp__law_take) :=
  fnD F sc__law_take fun cdv A outer s H E hr tk hp => by
    have hu := hu_of hr
    have nd := sc__law_take.nd
    exact ⟨m__law_take, (ds_cons (ds_if (dt_cmp or_lt (de_ix ix_d (de_var (i := 0) rfl (vis_by rfl)) de_int fun _ _ => rfl) (de_var (i := 1) rfl (vis_by rfl))) (ds_cons (ds_set (i := 3) nd rfl (loc_by rfl) (de_ix ix_d (de_var (i := 0) rfl (vis_by rfl)) de_int fun _ _ => rfl)) (ds_cons (ds_set (i := 4) nd rfl (loc_by rfl) de_int) (ds_cons (ds_if (dt_cmp or_lt (de_var (i := 3) rfl (vis_by rfl)) (de_callB cd_len rfl n_len bt_len (da_cons (de_ix ix_d (de_var (i := 0) rfl (vis_by rfl)) de_int fun _ _ => rfl) da_nil))) (ds_one (ds_set (i := 4) nd rfl (loc_by rfl) (de_ix ix_d (de_ix ix_d (de_var (i := 0) rfl (vis_by rfl)) de_int fun _ _ => rfl) (de_var (i := 3) rfl (vis_by rfl)) fun _ _ => rfl))) (ds_one (ds_if (dt_cmp or_gt (de_callB cd_len rfl n_len bt_len (da_cons (de_ix ix_d (de_var (i := 0) rfl (vis_by rfl)) de_int fun _ _ => rfl) da_nil)) de_int) (ds_one (ds_set (i := 4) nd rfl (loc_by rfl) (de_bin or_mod (de_callTy cd_int rfl n_int bt_int (da_cons (de_ix ix_d (de_ix ix_d (de_var (i := 0) rfl (vis_by rfl)) de_int fun _ _ => rfl) (de_bin or_mod (de_callTy cd_int rfl n_int bt_int (da_cons (de_bin or_add (de_bin or_mul (de_var (i := 3) rfl (vis_by rfl)) de_int) de_int) da_nil)) (de_callB cd_len rfl n_len bt_len (da_cons (de_ix ix_d (de_var (i := 0) rfl (vis_by rfl)) de_int fun _ _ => rfl) da_nil))) fun _ _ => rfl) da_nil)) (de_bin or_add (de_bin or_pow de_int de_int) (de_var (i := 3) rfl (vis_by rfl)))))) ds_nil))) (ds_cons (ds_setI set_l (de_var (i := 0) rfl (vis_by rfl)) de_int (de_bin or_add (de_var (i := 3) rfl (vis_by rfl)) de_int)) (ds_one (ds_setI set_l (de_var (i := 0) rfl (vis_by rfl)) de_int (de_fn H__law_spread rfl hr (by decide) rfl tk (da_cons (de_var (i := 4) rfl (vis_by rfl)) (da_cons (de_var (i := 3) rfl (vis_by rfl)) da_nil))))))))) ds_nil) (ds_cons (ds_set (i := 2) nd rfl (loc_by rfl) (de_bin or_mod (de_callTy cd_int rfl n_int bt_int (da_cons (de_ix ix_d (de_var (i := 0) rfl (vis_by rfl)) de_int fun _ _ => rfl) da_nil)) (de_var (i := 1) rfl (vis_by rfl)))) (ds_cons (ds_setI set_l (de_var (i := 0) rfl (vis_by rfl)) de_int (de_bin or_fdiv (de_ix ix_d (de_var (i := 0) rfl (vis_by rfl)) de_int fun _ _ => rfl) (de_var (i := 1) rfl (vis_by rfl)))) (ds_one (ds_ret (de_var (i := 2) rfl (vis_by rfl))))))), ok__law_take⟩

theorem sc__law_one_of : FnScope N__law_one_of ["pen", "some"] (defScope s__law_one_of) := ⟨rfl, rfl, rfl, by decide +kernel, rfl, by decide +kernel, by decide +kernel⟩
theorem w__law_one_of {P : Program} {w : World} {K : PySem.W.Frag} {mg : Str → Option Value} {base : Heap} {T : Tb} (H__law_take : Has P w K mg base T 2 "_law_take" ["pen", "many"] sp__law_take) (n_len : mg "len" = none) {f : Addr} {fd : FuncData} (F : FunD K "_law_one_of" "_law_one_of" (defArgs s__law_one_of) (defBody s__law_one_of) (defScope s__law_one_of) [] [] f fd) :
    FnOk P w K mg base (L2.CX P w) 3 f fd ["pen", "some"] (lift ⟨K, w, T⟩ 2 sp__law_one_of) :=
  fnD F sc__law_one_of fun cdv A outer s H E hr tk hp => by
    have hu := hu_of hr
    have nd := sc__law_one_of.nd
    exact ⟨m__law_one_of, (ds_one (ds_ret (de_ix ix_d (de_var (i := 1) rfl (vis_by rfl)) (de_fn H__law_take rfl hr (by decide) rfl tk (da_cons (de_var (i := 0) rfl (vis_by rfl)) (da_cons (de_callB cd_len rfl n_len bt_len (da_cons (de_var (i := 1) rfl (vis_by rfl)) da_nil)) da_nil))) fun _ _ => rfl))), ok__law_one_of⟩

theorem sc__law_sorted : FnScope N__law_sorted ["words"] (defScope s__law_sorted) := ⟨rfl, rfl, rfl, by decide +kernel, rfl, by decide +kernel, by decide +kernel⟩
theorem w__law_sorted {P : Program} {w : World} {K : PySem.W.Frag} {mg : Str → Option Value} {base : Heap} {T : Tb} (n_sorted : mg "sorted" = none) (n_len : mg "len" = none) {f : Addr} {fd : FuncData} (F : FunD K "_law_sorted" "_law_sorted" (defArgs s__law_sorted) (defBody s__law_sorted) (defScope s__law_sorted) [] [] f fd) :
    FnOk P w K mg base (L2.CX P w) 1 f fd ["words"] (lift ⟨K, w, T⟩ 1 sp__law_sorted) :=
  fnD F sc__law_sorted fun cdv A outer s H E hr tk hp => by
    have hu := hu_of hr
    have nd := sc__law_sorted.nd
    exact ⟨m__law_sorted, (ds_cons (ds_set (i := 1) nd rfl (loc_by rfl) (de_lst da_nil)) (ds_cons (ds_for hp rfl (di_seq (de_callB (cd_sorted rfl (hu_64 hu)) rfl n_sorted bt_sorted (da_cons (de_lc (own := [("word", 3)]) rfl nd (di_seq (de_var (i := 0) rfl (vis_by rfl))) (blkOk_by rfl) (by decide) (fun _ _ _ _ _ => (pg_name (i := 3) nd rfl (loc_by rfl))) (fun _ _ _ _ _ => dts_nil) (fun _ _ _ _ _ => (de_tup (da_cons (de_callB cd_len rfl n_len bt_len (da_cons (de_var (i := 3) rfl (vis_by rfl)) da_nil)) (da_cons (de_var (i := 3) rfl (vis_by rfl)) da_nil))))) da_nil))) (dg_tup rfl (dgs_cons (dg_name (i := 2) nd rfl (loc_by rfl)) (dgs_cons (dg_name (i := 3) nd rfl (loc_by rfl)) dgs_nil))) (ds_one (ds_if (DW.t (dw_or (dt_cmp (or_eq (hu_64 hu)) (de_var (i := 1) rfl (vis_by rfl)) (de_lst da_nil)) (dw_or1 (dt_cmp (or_ne (hu_64 hu)) (de_ix ix_d (de_var (i := 1) rfl (vis_by rfl)) (de_neg de_int) fun _ _ => rfl) (de_var (i := 3) rfl (vis_by rfl)))))) (ds_one (ds_expr (de_mt PySem.F.plainAttrs_list PySem.F.slot_list_append PySem.F.type_list_append md_append (de_var (i := 1) rfl (vis_by rfl)) (da_cons (de_var (i := 3) rfl (vis_by rfl)) da_nil)))) ds_nil))) (ds_one (ds_ret (de_var (i := 1) rfl (vis_by rfl)))))), ok__law_sorted⟩

theorem sc__law_torn : FnScope N__law_torn ["kind", "word", "at", "size"] (defScope s__law_torn) := ⟨rfl, rfl, rfl, by decide +kernel, rfl, by decide +kernel, by decide +kernel⟩
theorem w__law_torn {P : Program} {w : World} {K : PySem.W.Frag} {mg : Str → Option Value} {base : Heap} {T : Tb} (n_list : mg "list" = none) {f : Addr} {fd : FuncData} (F : FunD K "_law_torn" "_law_torn" (defArgs s__law_torn) (defBody s__law_torn) (defScope s__law_torn) [] [] f fd) :
    FnOk P w K mg base (L2.CX P w) 1 f fd ["kind", "word", "at", "size"] (lift ⟨K, w, T⟩ 4 sp__law_torn) :=
  fnD F sc__law_torn fun cdv A outer s H E hr tk hp => by
    have hu := hu_of hr
    have nd := sc__law_torn.nd
    exact ⟨m__law_torn, (ds_cons (ds_set (i := 4) nd rfl (loc_by rfl) (de_callTy (cd_list rfl) rfl n_list bt_list (da_cons (de_slice (de_var (i := 1) rfl (vis_by rfl)) do_none (do_some (de_var (i := 2) rfl (vis_by rfl)))) da_nil))) (ds_cons (ds_if (dt_cmp (or_eq (hu_64 hu)) (de_var (i := 0) rfl (vis_by rfl)) (de_str (z := [102, 97, 100, 101, 100]))) (ds_one (ds_set (i := 4) nd rfl (loc_by rfl) (de_bin or_add (de_var (i := 4) rfl (vis_by rfl)) (de_bin or_mul (de_lst (da_cons (de_str (z := [63])) da_nil)) (de_var (i := 3) rfl (vis_by rfl)))))) ds_nil) (ds_cons (ds_if (dt_cmp (or_eq (hu_64 hu)) (de_var (i := 0) rfl (vis_by rfl)) (de_str (z := [111, 112, 101, 110]))) (ds_one (ds_expr (de_mt PySem.F.plainAttrs_list PySem.F.slot_list_append PySem.F.type_list_append md_append (de_var (i := 4) rfl (vis_by rfl)) (da_cons (de_str (z := [42])) da_nil)))) ds_nil) (ds_cons (ds_if (dt_cmp (or_eq (hu_64 hu)) (de_var (i := 0) rfl (vis_by rfl)) (de_str (z := [100, 111, 117, 98, 108, 101, 100]))) (ds_one (ds_set (i := 4) nd rfl (loc_by rfl) (de_bin or_add (de_var (i := 4) rfl (vis_by rfl)) (de_bin or_mul (de_callTy (cd_list rfl) rfl n_list bt_list (da_cons (de_slice (de_var (i := 1) rfl (vis_by rfl)) (do_some (de_var (i := 2) rfl (vis_by rfl))) (do_some (de_bin or_add (de_var (i := 2) rfl (vis_by rfl)) (de_var (i := 3) rfl (vis_by rfl))))) da_nil)) de_int)))) ds_nil) (ds_one (ds_ret (de_bin or_add (de_mt PySem.F.plainAttrs_str PySem.F.slot_str_join PySem.F.type_str_join md_join (de_str (z := [])) (da_cons (de_var (i := 4) rfl (vis_by rfl)) da_nil)) (de_slice (de_var (i := 1) rfl (vis_by rfl)) (do_some (de_bin or_add (de_var (i := 2) rfl (vis_by rfl)) (de_var (i := 3) rfl (vis_by rfl)))) do_none)))))))), ok__law_torn⟩

theorem sc__law_readings : FnScope N__law_readings ["rule", "word"] (defScope s__law_readings) := ⟨rfl, rfl, rfl, by decide +kernel, rfl, by decide +kernel, by decide +kernel⟩
theorem w__law_readings {P : Program} {w : World} {K : PySem.W.Frag} {mg : Str → Option Value} {base : Heap} {T : Tb} (n_range : mg "range" = none) (n_len : mg "len" = none) (H__law_torn : Has P w K mg base T 1 "_law_torn" ["kind", "word", "at", "size"] sp__law_torn) (H__law_sorted : Has P w K mg base T 1 "_law_sorted" ["words"] sp__law_sorted) {f : Addr} {fd : FuncData} (F : FunD K "_law_readings" "_law_readings" (defArgs s__law_readings) (defBody s__law_readings) (defScope s__law_readings) [] [] f fd) :
    FnOk P w K mg base (L2.CX P w) 2 f fd ["rule", "word"] (lift ⟨K, w, T⟩ 2 sp__law_readings) :=
  fnD F sc__law_readings fun cdv A outer s H E hr tk hp => by
    have hu := hu_of hr
    have nd := sc__law_readings.nd
    exact ⟨m__law_readings, (ds_cons (ds_set (i := 2) nd rfl (loc_by rfl) (de_lst da_nil)) (ds_cons (ds_for hp rfl (di_rng2 rfl n_range (da_cons (de_ix ix_d (de_var (i := 0) rfl (vis_by rfl)) de_int fun _ _ => rfl) (da_cons (de_bin or_add (de_ix ix_d (de_var (i := 0) rfl (vis_by rfl)) de_int fun _ _ => rfl) de_int) da_nil))) (dg_name (i := 3) nd rfl (loc_by rfl)) (ds_one (ds_for hp rfl (di_rng1 rfl n_range (da_cons (de_bin or_add (de_bin or_sub (de_callB cd_len rfl n_len bt_len (da_cons (de_var (i := 1) rfl (vis_by rfl)) da_nil)) (de_var (i := 3) rfl (vis_by rfl))) de_int) da_nil)) (dg_name (i := 4) nd rfl (loc_by rfl)) (ds_one (ds_expr (de_mt PySem.F.plainAttrs_list PySem.F.slot_list_append PySem.F.type_list_append md_append (de_var (i := 2) rfl (vis_by rfl)) (da_cons (de_fn H__law_torn rfl hr (by decide) rfl tk (da_cons (de_ix ix_d (de_var (i := 0) rfl (vis_by rfl)) de_int fun _ _ => rfl) (da_cons (de_var (i := 1) rfl (vis_by rfl)) (da_cons (de_var (i := 4) rfl (vis_by rfl)) (da_cons (de_var (i := 3) rfl (vis_by rfl)) da_nil))))) da_nil))))))) (ds_one (ds_ret (de_fn H__law_sorted rfl hr (by decide) rfl tk (da_cons (de_var (i := 2) rfl (vis_by rfl)) da_nil)))))), ok__law_readings⟩

theorem sc__law_text : FnScope N__law_text ["pen", "many"] (defScope s__law_text) := ⟨rfl, rfl, rfl, by decide +kernel, rfl, by decide +kernel, by decide +kernel⟩
theorem w__law_text {P : Program} {w : World} {K : PySem.W.Frag} {mg : Str → Option Value} {base : Heap} {T : Tb} (n_range : mg "range" = none) (H__law_take : Has P w K mg base T 2 "_law_take" ["pen", "many"] sp__law_take) (H__law_one_of : Has P w K mg base T 3 "_law_one_of" ["pen", "some"] sp__law_one_of) {f : Addr} {fd : FuncData} (F : FunD K "_law_text" "_law_text" (defArgs s__law_text) (defBody s__law_text) (defScope s__law_text) [] [] f fd) :
    FnOk P w K mg base (L2.CX P w) 4 f fd ["pen", "many"] (lift ⟨K, w, T⟩ 2 sp__law_text) :=
  fnD F sc__law_text fun cdv A outer s H E hr tk hp => by
    have hu := hu_of hr
    have nd := sc__law_text.nd
    exact ⟨m__law_text, (ds_cons (ds_set (i := 2) nd rfl (loc_by rfl) (de_mt PySem.F.plainAttrs_str PySem.F.slot_str_join PySem.F.type_str_join md_join (de_str (z := [])) (da_cons (de_lc (own := [("again", 3)]) rfl nd (di_rng1 rfl n_range (da_cons (de_bin or_add de_int (de_fn H__law_take rfl hr (by decide) rfl tk (da_cons (de_var (i := 0) rfl (vis_by rfl)) (da_cons de_int da_nil)))) da_nil)) (blkOk_by rfl) (by decide) (fun _ _ _ _ _ => (pg_name (i := 3) nd rfl (loc_by rfl))) (fun _ _ _ _ _ => dts_nil) (fun _ _ _ _ _ => (de_fn H__law_one_of rfl hr (by decide) rfl takesF (da_cons (de_var (i := 0) rfl (vis_by rfl)) (da_cons (de_slice (de_str (z := [97, 98, 122])) do_none (do_some (de_bin or_add de_int (de_fn H__law_take rfl hr (by decide) rfl takesF (da_cons (de_var (i := 0) rfl (vis_by rfl)) (da_cons de_int da_nil)))))) da_nil))))) da_nil))) (ds_one (ds_ret (de_if (dt_cmp (or_eq (hu_64 hu)) (de_fn H__law_take rfl hr (by decide) rfl tk (da_cons (de_var (i := 0) rfl (vis_by rfl)) (da_cons de_int da_nil))) de_int) (de_slice (de_bin or_mul (de_var (i := 2) rfl (vis_by rfl)) (de_var (i := 1) rfl (vis_by rfl))) do_none (do_some (de_fn H__law_take rfl hr (by decide) rfl tk (da_cons (de_var (i := 0) rfl (vis_by rfl)) (da_cons (de_bin or_add (de_var (i := 1) rfl (vis_by rfl)) de_int) da_nil))))) (de_slice (de_var (i := 2) rfl (vis_by rfl)) do_none (do_some (de_var (i := 1) rfl (vis_by rfl)))))))), ok__law_text⟩

theorem sc__law_sources : FnScope N__law_sources ["pen", "rule", "reading"] (defScope s__law_sources) := ⟨rfl, rfl, rfl, by decide +kernel, rfl, by decide +kernel, by decide +kernel⟩
theorem w__law_sources {P : Program} {w : World} {K : PySem.W.Frag} {mg : Str → Option Value} {base : Heap} {T : Tb} (n_range : mg "range" = none) (n_len : mg "len" = none) (H__law_one_of : Has P w K mg base T 3 "_law_one_of" ["pen", "some"] sp__law_one_of) {f : Addr} {fd : FuncData} (F : FunD K "_law_sources" "_law_sources" (defArgs s__law_sources) (defBody s__law_sources) (defScope s__law_sources) [] [] f fd) :
    FnOk P w K mg base (L2.CX P w) 4 f fd ["pen", "rule", "reading"] (lift ⟨K, w, T⟩ 3 sp__law_sources) :=
  fnD F sc__law_sources fun cdv A outer s H E hr tk hp => by
    have hu := hu_of hr
    have nd := sc__law_sources.nd
    exact ⟨m__law_sources, (ds_cons (ds_asg (de_var (i := 1) rfl (vis_by rfl)) (dg_tup rfl (dgs_cons (dg_name (i := 5) nd rfl (loc_by rfl)) (dgs_cons (dg_name (i := 6) nd rfl (loc_by rfl)) (dgs_cons (dg_name (i := 7) nd rfl (loc_by rfl)) dgs_nil))))) (ds_cons (ds_set (i := 3) nd rfl (loc_by rfl) (de_lst da_nil)) (ds_cons (ds_for hp rfl (di_rng2 rfl n_range (da_cons (de_var (i := 6) rfl (vis_by rfl)) (da_cons (de_bin or_add (de_var (i := 7) rfl (vis_by rfl)) de_int) da_nil))) (dg_name (i := 4) nd rfl (loc_by rfl)) (ds_one (ds_for hp rfl (di_rng1 rfl n_range (da_cons (de_bin or_add (de_callB cd_len rfl n_len bt_len (da_cons (de_var (i := 2) rfl (vis_by rfl)) da_nil)) de_int) da_nil)) (dg_name (i := 8) nd rfl (loc_by rfl)) (ds_cons (ds_set (i := 10) nd rfl (loc_by rfl) (de_slice (de_var (i := 2) rfl (vis_by rfl)) (do_some (de_var (i := 8) rfl (vis_by rfl))) (do_some (de_bin or_add (de_var (i := 8) rfl (vis_by rfl)) (de_var (i := 4) rfl (vis_by rfl)))))) (ds_cons (ds_if (DW.t (dw_and (dt_cmp (or_eq (hu_64 hu)) (de_var (i := 5) rfl (vis_by rfl)) (de_str (z := [100, 111, 117, 98, 108, 101, 100]))) (dw_and1 (dt_cmp or_le (de_bin or_add (de_var (i := 8) rfl (vis_by rfl)) (de_bin or_mul de_int (de_var (i := 4) rfl (vis_by rfl)))) (de_callB cd_len rfl n_len bt_len (da_cons (de_var (i := 2) rfl (vis_by rfl)) da_nil)))))) (ds_one (ds_if (dt_val (de_mt PySem.F.plainAttrs_str PySem.F.slot_str_startswith PySem.F.type_str_startswith md_startswith (de_slice (de_var (i := 2) rfl (vis_by rfl)) (do_some (de_bin or_add (de_var (i := 8) rfl (vis_by rfl)) (de_var (i := 4) rfl (vis_by rfl)))) do_none) (da_cons (de_var (i := 10) rfl (vis_by rfl)) da_nil))) (ds_one (ds_expr (de_mt PySem.F.plainAttrs_list PySem.F.slot_list_append PySem.F.type_list_append md_append (de_var (i := 3) rfl (vis_by rfl)) (da_cons (de_bin or_add (de_slice (de_var (i := 2) rfl (vis_by rfl)) do_none (do_some (de_var (i := 8) rfl (vis_by rfl)))) (de_slice (de_var (i := 2) rfl (vis_by rfl)) (do_some (de_bin or_add (de_var (i := 8) rfl (vis_by rfl)) (de_var (i := 4) rfl (vis_by rfl)))) do_none)) da_nil)))) ds_nil)) ds_nil) (ds_one (ds_if (DW.t (dw_and (dt_cmp (or_eq (hu_64 hu)) (de_var (i := 5) rfl (vis_by rfl)) (de_str (z := [111, 112, 101, 110]))) (dw_and1 (dt_cmp (or_eq (hu_64 hu)) (de_slice (de_var (i := 2) rfl (vis_by rfl)) (do_some (de_var (i := 8) rfl (vis_by rfl))) (do_some (de_bin or_add (de_var (i := 8) rfl (vis_by rfl)) de_int))) (de_str (z := [42])))))) (ds_cons (ds_set (i := 11) nd rfl (loc_by rfl) (de_mt PySem.F.plainAttrs_str PySem.F.slot_str_join PySem.F.type_str_join md_join (de_str (z := [])) (da_cons (de_lc (own := [("again", 9)]) rfl nd (di_rng1 rfl n_range (da_cons (de_var (i := 4) rfl (vis_by rfl)) da_nil)) (blkOk_by rfl) (by decide) (fun _ _ _ _ _ => (pg_name (i := 9) nd rfl (loc_by rfl))) (fun _ _ _ _ _ => dts_nil) (fun _ _ _ _ _ => (de_fn H__law_one_of rfl hr (by decide) rfl takesF (da_cons (de_var (i := 0) rfl (vis_by rfl)) (da_cons (de_str (z := [97, 98, 122])) da_nil))))) da_nil))) (ds_one (ds_expr (de_mt PySem.F.plainAttrs_list PySem.F.slot_list_append PySem.F.type_list_append md_append (de_var (i := 3) rfl (vis_by rfl)) (da_cons (de_bin or_add (de_bin or_add (de_slice (de_var (i := 2) rfl (vis_by rfl)) do_none (do_some (de_var (i := 8) rfl (vis_by rfl)))) (de_var (i := 11) rfl (vis_by rfl))) (de_slice (de_var (i := 2) rfl (vis_by rfl)) (do_some (de_bin or_add (de_var (i := 8) rfl (vis_by rfl)) de_int)) do_none)) da_nil))))) ds_nil))))))) (ds_cons (ds_if (dt_cmp (or_eq (hu_64 hu)) (de_var (i := 5) rfl (vis_by rfl)) (de_str (z := [102, 97, 100, 101, 100]))) (ds_one (ds_for hp rfl (di_rng1 rfl n_range (da_cons de_int da_nil)) (dg_name (i := 9) nd rfl (loc_by rfl)) (ds_one (ds_expr (de_mt PySem.F.plainAttrs_list PySem.F.slot_list_append PySem.F.type_list_append md_append (de_var (i := 3) rfl (vis_by rfl)) (da_cons (de_mt PySem.F.plainAttrs_str PySem.F.slot_str_join PySem.F.type_str_join md_join (de_str (z := [])) (da_cons (de_lc (own := [("c", 12)]) rfl nd (di_seq (de_var (i := 2) rfl (vis_by rfl))) (blkOk_by rfl) (by decide) (fun _ _ _ _ _ => (pg_name (i := 12) nd rfl (loc_by rfl))) (fun _ _ _ _ _ => dts_nil) (fun _ _ _ _ _ => (de_if (dt_cmp (or_eq (hu_64 hu)) (de_var (i := 12) rfl (vis_by rfl)) (de_str (z := [63]))) (de_fn H__law_one_of rfl hr (by decide) rfl takesF (da_cons (de_var (i := 0) rfl (vis_by rfl)) (da_cons (de_str (z := [97, 98, 122])) da_nil))) (de_var (i := 12) rfl (vis_by rfl))))) da_nil)) da_nil)))))) ds_nil) (ds_one (ds_ret (de_if (dt_cmp (or_ne (hu_64 hu)) (de_var (i := 3) rfl (vis_by rfl)) (de_lst da_nil)) (de_lst (da_cons (de_fn H__law_one_of rfl hr (by decide) rfl tk (da_cons (de_var (i := 0) rfl (vis_by rfl)) (da_cons (de_var (i := 3) rfl (vis_by rfl)) da_nil))) (da_cons (de_fn H__law_one_of rfl hr (by decide) rfl tk (da_cons (de_var (i := 0) rfl (vis_by rfl)) (da_cons (de_var (i := 3) rfl (vis_by rfl)) da_nil))) da_nil))) (de_lst (da_cons (de_str (z := [])) (da_cons (de_str (z := [])) da_nil)))))))))), ok__law_sources⟩

theorem sc__law_any_reading : FnScope N__law_any_reading ["pen", "rule"] (defScope s__law_any_reading) := ⟨rfl, rfl, rfl, by decide +kernel, rfl, by decide +kernel, by decide +kernel⟩
theorem w__law_any_reading {P : Program} {w : World} {K : PySem.W.Frag} {mg : Str → Option Value} {base : Heap} {T : Tb} (H__law_text : Has P w K mg base T 4 "_law_text" ["pen", "many"] sp__law_text) (H__law_take : Has P w K mg base T 2 "_law_take" ["pen", "many"] sp__law_take) {f : Addr} {fd : FuncData} (F : FunD K "_law_any_reading" "_law_any_reading" (defArgs s__law_any_reading) (defBody s__law_any_reading) (defScope s__law_any_reading) [] [] f fd) :
    FnOk P w K mg base (L2.CX P w) 5 f fd ["pen", "rule"] (lift ⟨K, w, T⟩ 2 sp__law_any_reading) :=
  fnD F sc__law_any_reading fun cdv A outer s H E hr tk hp => by
    have hu := hu_of hr
    have nd := sc__law_any_reading.nd
    exact ⟨m__law_any_reading, (ds_cons (ds_asg (de_var (i := 1) rfl (vis_by rfl)) (dg_tup rfl (dgs_cons (dg_name (i := 3) nd rfl (loc_by rfl)) (dgs_cons (dg_name (i := 4) nd rfl (loc_by rfl)) (dgs_cons (dg_name (i := 5) nd rfl (loc_by rfl)) dgs_nil))))) (ds_cons (ds_par (i := 6) (j := 7) rfl nd rfl rfl (by decide) rfl rfl (da_cons (de_fn H__law_text rfl hr (by decide) rfl tk (da_cons (de_var (i := 0) rfl (vis_by rfl)) (da_cons de_int da_nil))) (da_cons (de_fn H__law_text rfl hr (by decide) rfl tk (da_cons (de_var (i := 0) rfl (vis_by rfl)) (da_cons de_int da_nil))) da_nil)) rfl) (ds_cons (ds_if (dt_cmp (or_eq (hu_64 hu)) (de_var (i := 3) rfl (vis_by rfl)) (de_str (z := [102, 97, 100, 101, 100]))) (ds_one (ds_ret (de_bin or_add (de_bin or_add (de_var (i := 6) rfl (vis_by rfl)) (de_bin or_mul (de_str (z := [63])) (de_bin or_add (de_var (i := 4) rfl (vis_by rfl)) (de_fn H__law_take rfl hr (by decide) rfl tk (da_cons (de_var (i := 0) rfl (vis_by rfl)) (da_cons (de_bin or_add (de_bin or_sub (de_var (i := 5) rfl (vis_by rfl)) (de_var (i := 4) rfl (vis_by rfl))) de_int) da_nil)))))) (de_var (i := 7) rfl (vis_by rfl))))) ds_nil) (ds_cons (ds_if (dt_cmp (or_eq (hu_64 hu)) (de_var (i := 3) rfl (vis_by rfl)) (de_str (z := [111, 112, 101, 110]))) (ds_one (ds_ret (de_bin or_add (de_bin or_add (de_var (i := 6) rfl (vis_by rfl)) (de_str (z := [42]))) (de_var (i := 7) rfl (vis_by rfl))))) ds_nil) (ds_cons (ds_set (i := 2) nd rfl (loc_by rfl) (de_fn H__law_text rfl hr (by decide) rfl tk (da_cons (de_var (i := 0) rfl (vis_by rfl)) (da_cons de_int da_nil)))) (ds_one (ds_ret (de_bin or_add (de_bin or_add (de_bin or_add (de_bin or_add (de_var (i := 6) rfl (vis_by rfl)) (de_var (i := 2) rfl (vis_by rfl))) (de_var (i := 2) rfl (vis_by rfl))) (de_slice (de_var (i := 2) rfl (vis_by rfl)) do_none (do_some (de_fn H__law_take rfl hr (by decide) rfl tk (da_cons (de_var (i := 0) rfl (vis_by rfl)) (da_cons de_int da_nil)))))) (de_var (i := 7) rfl (vis_by rfl)))))))))), ok__law_any_reading⟩

theorem sc__law_refused_right : FnScope N__law_refused_right ["rule", "work", "words", "reading"] (defScope s__law_refused_right) := ⟨rfl, rfl, rfl, by decide +kernel, rfl, by decide +kernel, by decide +kernel⟩
theorem w__law_refused_right {P : Program} {w : World} {K : PySem.W.Frag} {mg : Str → Option Value} {base : Heap} {T : Tb} (L__law_word : HasCat K mg T "_law_word" [(.rule, [114, 117, 108, 101]), (.word, [119, 111, 114, 100]), (.reading, [114, 101, 97, 100, 105, 110, 103]), (.tear, [111, 100, 100])] [110, 111, 110, 101]) (V_as_open : HasV P w K mg base T 5 "as_open" ["rule", "word", "other", "reading"] sp_as_open) (V_as_closed : HasV P w K mg base T 5 "as_closed" ["rule", "word", "other", "reading"] sp_as_closed) (H__law_readings : Has P w K mg base T 2 "_law_readings" ["rule", "word"] sp__law_readings) (xk : ExcK K T [.tear, .rule, .word, .reading]) (TB : LamX.TabB base mg (He.cT K ("_law_refused_right", none)).1 (He.cT K ("_law_refused_right", none)).2) (hmT : ((He.cT K ("_law_refused_right", none)).2, lamQ "_law_refused_right") ∈ T.tabs) (huT : ∀ p ∈ T.tabs, p.1 = (He.cT K ("_law_refused_right", none)).2 → p.2 = lamQ "_law_refused_right") {fd : FuncData} (F : FunD K "_law_refused_right" "_law_refused_right" (defArgs s__law_refused_right) (defBody s__law_refused_right) (defScope s__law_refused_right) [] [] (He.fAd K ("_law_refused_right", none)) fd) :
    FnOk P w K mg base (L2.CX P w) 8 (He.fAd K ("_law_refused_right", none)) fd ["rule", "work", "words", "reading"] (lift ⟨K, w, T⟩ 4 sp__law_refused_right) :=
  fnL F sc__law_refused_right fun A outer s H E hr gd tk hp => by
    have hu := hu_of hr
    have nd := sc__law_refused_right.nd
    exact ⟨m__law_refused_right, (ds_cons (ds_asg (de_var (i := 2) rfl (vis_by rfl)) (dg_tup rfl (dgs_cons (dg_name (i := 8) nd rfl (loc_by rfl)) (dgs_cons (dg_name (i := 9) nd rfl (loc_by rfl)) dgs_nil)))) (ds_cons (ds_set (i := 4) nd rfl (loc_by rfl) (de_if (dt_cmp (or_eq (hu_64 hu)) (de_ix ix_d (de_var (i := 0) rfl (vis_by rfl)) de_int fun _ _ => rfl) (de_str (z := [102, 97, 100, 101, 100]))) (de_lst (da_cons (de_tup (da_cons (de_str (z := [100, 111, 117, 98, 108, 101, 100])) (da_cons de_int (da_cons de_int da_nil)))) (da_cons (de_tup (da_cons (de_str (z := [111, 112, 101, 110])) (da_cons de_int (da_cons de_int da_nil)))) da_nil))) (de_lst (da_cons (de_tup (da_cons (de_str (z := [102, 97, 100, 101, 100])) (da_cons de_int (da_cons de_int da_nil)))) da_nil)))) (ds_cons (ds_for hp rfl (di_seq (de_bin or_add (de_var (i := 4) rfl (vis_by rfl)) (de_lst (da_cons de_non (da_cons (de_tup (da_cons (de_ix ix_d (de_var (i := 0) rfl (vis_by rfl)) de_int fun _ _ => rfl) (da_cons de_int da_nil))) (da_cons (de_tup (da_cons (de_str (z := [99, 108, 111, 115, 101, 100])) (da_cons de_int (da_cons de_int da_nil)))) (da_cons (de_tup (da_cons (de_ix ix_d (de_var (i := 0) rfl (vis_by rfl)) de_int fun _ _ => rfl) (da_cons de_int (da_cons de_int da_nil)))) (da_cons (de_str (z := [111, 112, 101, 110])) (da_cons (de_tup da_nil) da_nil))))))))) (dg_name (i := 5) nd rfl (loc_by rfl)) (ds_one (ds_if (dt_cmp (or_ne (hu_64 hu)) (de_lam (k := 5) L__law_word xk (by decide) rfl TB rfl hmT huT hr (by decide) (LamX.lamS_by rfl) rfl (fun _ _ _ _ _ => rfl) fun A2 outer2 s2 H2 E2 f2 c2 hr => by
      have hu := hu_of hr
      exact (de_callV (i := 1) ⟨⟨_, _, by decide, rfl, V_as_open⟩, ⟨_, _, by decide, rfl, V_as_closed⟩, True.intro⟩ hr rfl (vis_by rfl) (takes_of rfl rfl rfl rfl) (da_cons (de_var (i := 5) rfl (vis_by rfl)) (da_cons de_non (da_cons de_non (da_cons de_non da_nil)))))) (de_str (z := [114, 117, 108, 101]))) (ds_one (ds_ret de_bl)) ds_nil))) (ds_cons (ds_for hp rfl (di_seq (de_lst (da_cons de_non (da_cons de_int (da_cons (de_str (z := [65])) (da_cons (de_str (z := [97, 63])) (da_cons (de_bin or_mul (de_str (z := [97])) de_int) (da_cons (de_lst (da_cons (de_str (z := [97])) da_nil)) (da_cons (de_str (z := [97, 123])) (da_cons (de_str (z := [126])) (da_cons (de_str (z := [49])) da_nil))))))))))) (dg_name (i := 5) nd rfl (loc_by rfl)) (ds_cons (ds_if (dt_cmp (or_ne (hu_64 hu)) (de_lam (k := 5) L__law_word xk (by decide) rfl TB rfl hmT huT hr (by decide) (LamX.lamS_by rfl) rfl (fun _ _ _ _ _ => rfl) fun A2 outer2 s2 H2 E2 f2 c2 hr => by
      have hu := hu_of hr
      exact (de_callV (i := 1) ⟨⟨_, _, by decide, rfl, V_as_open⟩, ⟨_, _, by decide, rfl, V_as_closed⟩, True.intro⟩ hr rfl (vis_by rfl) (takes_of rfl rfl rfl rfl) (da_cons (de_var (i := 0) rfl (vis_by rfl)) (da_cons (de_var (i := 5) rfl (vis_by rfl)) (da_cons (de_var (i := 8) rfl (vis_by rfl)) (da_cons de_non da_nil)))))) (de_str (z := [119, 111, 114, 100]))) (ds_one (ds_ret de_bl)) ds_nil) (ds_one (ds_if (dt_cmp (or_ne (hu_64 hu)) (de_lam (k := 5) L__law_word xk (by decide) rfl TB rfl hmT huT hr (by decide) (LamX.lamS_by rfl) rfl (fun _ _ _ _ _ => rfl) fun A2 outer2 s2 H2 E2 f2 c2 hr => by
      have hu := hu_of hr
      exact (de_callV (i := 1) ⟨⟨_, _, by decide, rfl, V_as_open⟩, ⟨_, _, by decide, rfl, V_as_closed⟩, True.intro⟩ hr rfl (vis_by rfl) (takes_of rfl rfl rfl rfl) (da_cons (de_var (i := 0) rfl (vis_by rfl)) (da_cons (de_var (i := 8) rfl (vis_by rfl)) (da_cons (de_var (i := 5) rfl (vis_by rfl)) (da_cons de_non da_nil)))))) (de_str (z := [119, 111, 114, 100]))) (ds_one (ds_ret de_bl)) ds_nil)))) (ds_cons (ds_for hp rfl (di_seq (de_lst (da_cons (de_var (i := 3) rfl (vis_by rfl)) (da_cons de_non (da_cons (de_str (z := [])) (da_cons (de_str (z := [63, 42])) (da_cons (de_bin or_add (de_var (i := 3) rfl (vis_by rfl)) (de_str (z := [97]))) da_nil))))))) (dg_name (i := 5) nd rfl (loc_by rfl)) (ds_one (ds_if (dt_cmp (or_ne (hu_64 hu)) (de_lam (k := 5) L__law_word xk (by decide) rfl TB rfl hmT huT hr (by decide) (LamX.lamS_by rfl) rfl (fun _ _ _ _ _ => rfl) fun A2 outer2 s2 H2 E2 f2 c2 hr => by
      have hu := hu_of hr
      exact (de_callV (i := 1) ⟨⟨_, _, by decide, rfl, V_as_open⟩, ⟨_, _, by decide, rfl, V_as_closed⟩, True.intro⟩ hr rfl (vis_by rfl) (takes_of rfl rfl rfl rfl) (da_cons (de_var (i := 0) rfl (vis_by rfl)) (da_cons (de_var (i := 8) rfl (vis_by rfl)) (da_cons (de_var (i := 8) rfl (vis_by rfl)) (da_cons (de_var (i := 5) rfl (vis_by rfl)) da_nil)))))) (de_str (z := [119, 111, 114, 100]))) (ds_one (ds_ret de_bl)) ds_nil))) (ds_cons (ds_set (i := 6) nd rfl (loc_by rfl) (de_tup (da_cons (de_ix ix_d (de_var (i := 0) rfl (vis_by rfl)) de_int fun _ _ => rfl) (da_cons de_int (da_cons (de_if (dt_cmp (or_eq (hu_64 hu)) (de_ix ix_d (de_var (i := 0) rfl (vis_by rfl)) de_int fun _ _ => rfl) (de_str (z := [100, 111, 117, 98, 108, 101, 100]))) de_int de_int) da_nil))))) (ds_cons (ds_set (i := 7) nd rfl (loc_by rfl) (de_bin or_add (de_slice (de_fn H__law_readings rfl hr (by decide) rfl tk (da_cons (de_var (i := 6) rfl (vis_by rfl)) (da_cons (de_var (i := 8) rfl (vis_by rfl)) da_nil))) do_none (do_some de_int)) (de_slice (de_fn H__law_readings rfl hr (by decide) rfl tk (da_cons (de_var (i := 6) rfl (vis_by rfl)) (da_cons (de_var (i := 9) rfl (vis_by rfl)) da_nil))) (do_some (de_neg de_int)) do_none))) (ds_cons (ds_for hp rfl (di_seq (de_bin or_add (de_lst (da_cons de_non (da_cons de_int (da_cons (de_bin or_add (de_var (i := 3) rfl (vis_by rfl)) (de_str (z := [97]))) (da_cons (de_bin or_add (de_str (z := [98])) (de_var (i := 3) rfl (vis_by rfl))) (da_cons (de_lst (da_cons (de_var (i := 3) rfl (vis_by rfl)) da_nil)) (da_cons (de_str (z := [])) (da_cons (de_str (z := [63, 42])) da_nil)))))))) (de_var (i := 7) rfl (vis_by rfl)))) (dg_name (i := 5) nd rfl (loc_by rfl)) (ds_cons (ds_set (i := 10) nd rfl (loc_by rfl) (de_and (de_cmp (or_in hu) (de_var (i := 5) rfl (vis_by rfl)) (de_fn H__law_readings rfl hr (by decide) rfl tk (da_cons (de_var (i := 0) rfl (vis_by rfl)) (da_cons (de_var (i := 8) rfl (vis_by rfl)) da_nil)))) (de_one (de_cmp (or_in hu) (de_var (i := 5) rfl (vis_by rfl)) (de_fn H__law_readings rfl hr (by decide) rfl tk (da_cons (de_var (i := 0) rfl (vis_by rfl)) (da_cons (de_var (i := 9) rfl (vis_by rfl)) da_nil))))))) (ds_one (ds_if (DW.t (dw_and (dt_not (dt_val (de_var (i := 10) rfl (vis_by rfl)))) (dw_and1 (dt_cmp (or_ne (hu_64 hu)) (de_lam (k := 5) L__law_word xk (by decide) rfl TB rfl hmT huT hr (by decide) (LamX.lamS_by rfl) rfl (fun _ _ _ _ _ => rfl) fun A2 outer2 s2 H2 E2 f2 c2 hr => by
      have hu := hu_of hr
      exact (de_callV (i := 1) ⟨⟨_, _, by decide, rfl, V_as_open⟩, ⟨_, _, by decide, rfl, V_as_closed⟩, True.intro⟩ hr rfl (vis_by rfl) (takes_of rfl rfl rfl rfl) (da_cons (de_var (i := 0) rfl (vis_by rfl)) (da_cons (de_var (i := 8) rfl (vis_by rfl)) (da_cons (de_var (i := 9) rfl (vis_by rfl)) (da_cons (de_var (i := 5) rfl (vis_by rfl)) da_nil)))))) (de_str (z := [114, 101, 97, 100, 105, 110, 103])))))) (ds_one (ds_ret de_bl)) ds_nil)))) (ds_one (ds_ret de_bl)))))))))), ok__law_refused_right⟩

theorem sc__law_pair_right : FnScope N__law_pair_right ["rule", "words", "reading"] (defScope s__law_pair_right) := ⟨rfl, rfl, rfl, by decide +kernel, rfl, by decide +kernel, by decide +kernel⟩
theorem w__law_pair_right {P : Program} {w : World} {K : PySem.W.Frag} {mg : Str → Option Value} {base : Heap} {T : Tb} (v_as_open : mg "as_open" = some (.ref (He.fAd K ("as_open", none)))) (v_as_closed : mg "as_closed" = some (.ref (He.fAd K ("as_closed", none)))) (V_as_open : HasV P w K mg base T 5 "as_open" ["rule", "word", "other", "reading"] sp_as_open) (V_as_closed : HasV P w K mg base T 5 "as_closed" ["rule", "word", "other", "reading"] sp_as_closed) (H__law_readings : Has P w K mg base T 2 "_law_readings" ["rule", "word"] sp__law_readings) (H__law_refused_right : Has P w K mg base T 8 "_law_refused_right" ["rule", "work", "words", "reading"] sp__law_refused_right) {f : Addr} {fd : FuncData} (F : FunD K "_law_pair_right" "_law_pair_right" (defArgs s__law_pair_right) (defBody s__law_pair_right) (defScope s__law_pair_right) [] [] f fd) :
    FnOk P w K mg base (L2.CX P w) 9 f fd ["rule", "words", "reading"] (lift ⟨K, w, T⟩ 3 sp__law_pair_right) :=
  fnD F sc__law_pair_right fun cdv A outer s H E hr tk hp => by
    have hu := hu_of hr
    have nd := sc__law_pair_right.nd
    exact ⟨m__law_pair_right, (ds_cons (ds_asg (de_if (dt_cmp (or_eq (hu_64 hu)) (de_ix ix_d (de_var (i := 0) rfl (vis_by rfl)) de_int fun _ _ => rfl) (de_str (z := [102, 97, 100, 101, 100]))) (de_tup (da_cons (de_fnV rfl v_as_open) (da_cons (de_str (z := [111, 112, 101, 110])) da_nil))) (de_tup (da_cons (de_fnV rfl v_as_closed) (da_cons (de_str (z := [99, 108, 111, 115, 101, 100])) da_nil)))) (dg_tup rfl (dgs_cons (dg_name (i := 5) nd rfl (loc_by rfl)) (dgs_cons (dg_name (i := 6) nd rfl (loc_by rfl)) dgs_nil)))) (ds_cons (ds_set (i := 3) nd rfl (loc_by rfl) (de_callV (i := 5) ⟨⟨_, _, by decide, rfl, V_as_open⟩, ⟨_, _, by decide, rfl, V_as_closed⟩, True.intro⟩ hr rfl (vis_by rfl) tk (da_cons (de_var (i := 0) rfl (vis_by rfl)) (da_cons (de_ix ix_d (de_var (i := 1) rfl (vis_by rfl)) de_int fun _ _ => rfl) (da_cons (de_ix ix_d (de_var (i := 1) rfl (vis_by rfl)) de_int fun _ _ => rfl) (da_cons (de_var (i := 2) rfl (vis_by rfl)) da_nil)))))) (ds_cons (ds_for hp rfl (di_seq (de_var (i := 1) rfl (vis_by rfl))) (dg_name (i := 4) nd rfl (loc_by rfl)) (ds_one (ds_if (dt_cmp (or_notIn hu) (de_var (i := 3) rfl (vis_by rfl)) (de_fn H__law_readings rfl hr (by decide) rfl tk (da_cons (de_tup (da_cons (de_var (i := 6) rfl (vis_by rfl)) (da_cons (de_ix ix_d (de_var (i := 0) rfl (vis_by rfl)) de_int fun _ _ => rfl) (da_cons (de_ix ix_d (de_var (i := 0) rfl (vis_by rfl)) de_int fun _ _ => rfl) da_nil)))) (da_cons (de_var (i := 4) rfl (vis_by rfl)) da_nil)))) (ds_one (ds_ret de_bl)) ds_nil))) (ds_one (ds_ret (de_fn H__law_refused_right rfl hr (by decide) rfl tk (da_cons (de_var (i := 0) rfl (vis_by rfl)) (da_cons (de_var (i := 5) rfl (vis_by rfl)) (da_cons (de_var (i := 1) rfl (vis_by rfl)) (da_cons (de_var (i := 2) rfl (vis_by rfl)) da_nil)))))))))), ok__law_pair_right⟩

theorem sc_law : FnScope N_law ["script"] (defScope s_law) := ⟨rfl, rfl, rfl, by decide +kernel, rfl, by decide +kernel, by decide +kernel⟩
theorem w_law {P : Program} {w : World} {K : PySem.W.Frag} {mg : Str → Option Value} {base : Heap} {T : Tb} (H__law_open : Has P w K mg base T 1 "_law_open" ["script"] sp__law_open) (n_range : mg "range" = none) (H__law_one_of : Has P w K mg base T 3 "_law_one_of" ["pen", "some"] sp__law_one_of) (H__law_take : Has P w K mg base T 2 "_law_take" ["pen", "many"] sp__law_take) (H__law_any_reading : Has P w K mg base T 5 "_law_any_reading" ["pen", "rule"] sp__law_any_reading) (H__law_sources : Has P w K mg base T 4 "_law_sources" ["pen", "rule", "reading"] sp__law_sources) (H__law_readings : Has P w K mg base T 2 "_law_readings" ["rule", "word"] sp__law_readings) (n_len : mg "len" = none) (H__law_pair_right : Has P w K mg base T 9 "_law_pair_right" ["rule", "words", "reading"] sp__law_pair_right) (H_as_closed : Has P w K mg base T 5 "as_closed" ["rule", "word", "other", "reading"] sp_as_closed) (L__law_word : HasCat K mg T "_law_word" [(.rule, [114, 117, 108, 101]), (.word, [119, 111, 114, 100]), (.reading, [114, 101, 97, 100, 105, 110, 103]), (.tear, [111, 100, 100])] [110, 111, 110, 101]) (H_as_open : Has P w K mg base T 5 "as_open" ["rule", "word", "other", "reading"] sp_as_open) (xk : ExcK K T [.tear, .rule, .word, .reading]) (TB : LamX.TabB base mg (He.cT K ("law", none)).1 (He.cT K ("law", none)).2) (hmT : ((He.cT K ("law", none)).2, lamQ "law") ∈ T.tabs) (huT : ∀ p ∈ T.tabs, p.1 = (He.cT K ("law", none)).2 → p.2 = lamQ "law") {fd : FuncData} (F : FunD K "law" "law" (defArgs s_law) (defBody s_law) (defScope s_law) [] [] (He.fAd K ("law", none)) fd) :
    FnG P w K mg base (L2.CX P w) 10 (He.fAd K ("law", none)) fd ["script"] (lift ⟨K, w, T⟩ 1 sp_law) :=
  fnG F sc_law fun A outer s H E hr gd tk hp => by
    have hu := hu_of hr
    have nd := sc_law.nd
    exact ⟨m_law, (ds_cons (ds_set (i := 1) nd rfl (loc_by rfl) (de_fn H__law_open rfl hr (by decide) rfl tk (da_cons (de_var (i := 0) rfl (vis_by rfl)) da_nil))) (ds_cons (ds_for hp rfl (di_rng1 rfl n_range (da_cons de_int da_nil)) (dg_name (i := 2) nd rfl (loc_by rfl)) (ds_cons (ds_set (i := 4) nd rfl (loc_by rfl) (de_fn H__law_one_of rfl hr (by decide) rfl tk (da_cons (de_var (i := 1) rfl (vis_by rfl)) (da_cons (de_lst (da_cons (de_str (z := [102, 97, 100, 101, 100])) (da_cons (de_str (z := [111, 112, 101, 110])) (da_cons (de_str (z := [100, 111, 117, 98, 108, 101, 100])) (da_cons (de_str (z := [100, 111, 117, 98, 108, 101, 100])) da_nil))))) da_nil)))) (ds_cons (ds_set (i := 5) nd rfl (loc_by rfl) (de_bin or_add de_int (de_fn H__law_take rfl hr (by decide) rfl tk (da_cons (de_var (i := 1) rfl (vis_by rfl)) (da_cons (de_if (dt_cmp (or_eq (hu_64 hu)) (de_var (i := 4) rfl (vis_by rfl)) (de_str (z := [100, 111, 117, 98, 108, 101, 100]))) de_int de_int) da_nil))))) (ds_cons (ds_set (i := 6) nd rfl (loc_by rfl) (de_tup (da_cons (de_var (i := 4) rfl (vis_by rfl)) (da_cons (de_fn H__law_take rfl hr (by decide) rfl tk (da_cons (de_var (i := 1) rfl (vis_by rfl)) (da_cons (de_bin or_add (de_var (i := 5) rfl (vis_by rfl)) de_int) da_nil))) (da_cons (de_var (i := 5) rfl (vis_by rfl)) da_nil))))) (ds_cons (ds_set (i := 7) nd rfl (loc_by rfl) (de_fn H__law_any_reading rfl hr (by decide) rfl tk (da_cons (de_var (i := 1) rfl (vis_by rfl)) (da_cons (de_var (i := 6) rfl (vis_by rfl)) da_nil)))) (ds_cons (ds_set (i := 8) nd rfl (loc_by rfl) (de_fn H__law_sources rfl hr (by decide) rfl tk (da_cons (de_var (i := 1) rfl (vis_by rfl)) (da_cons (de_var (i := 6) rfl (vis_by rfl)) (da_cons (de_var (i := 7) rfl (vis_by rfl)) da_nil))))) (ds_cons (ds_setLc (i := 9) (own := [("word", 11)]) rfl nd rfl rfl rfl (di_seq (de_var (i := 8) rfl (vis_by rfl))) (blkOk_by rfl) (by decide) (fun _ _ _ _ _ => (pg_name (i := 11) nd rfl (loc_by rfl))) (fun _ _ _ _ _ => (dts_one (dt_cmp (or_in hu) (de_var (i := 7) rfl (vis_by rfl)) (de_fn H__law_readings rfl hr (by decide) rfl takesF (da_cons (de_var (i := 6) rfl (vis_by rfl)) (da_cons (de_var (i := 11) rfl (vis_by rfl)) da_nil)))))) (fun _ _ _ _ _ => (de_var (i := 11) rfl (vis_by rfl)))) (ds_one (ds_if (DW.t (dw_and (dt_cmp (or_eq (hu_64 hu)) (de_callB cd_len rfl n_len bt_len (da_cons (de_var (i := 9) rfl (vis_by rfl)) da_nil)) de_int) (dw_and (dt_cmp (or_ne (hu_64 hu)) (de_ix ix_d (de_var (i := 8) rfl (vis_by rfl)) de_int fun _ _ => rfl) (de_ix ix_d (de_var (i := 8) rfl (vis_by rfl)) de_int fun _ _ => rfl)) (dw_and1 (dt_not (dt_val (de_fn H__law_pair_right rfl hr (by decide) rfl tk (da_cons (de_var (i := 6) rfl (vis_by rfl)) (da_cons (de_var (i := 8) rfl (vis_by rfl)) (da_cons (de_var (i := 7) rfl (vis_by rfl)) da_nil)))))))))) (ds_one (ds_ret de_bl)) ds_nil))))))))) (ds_cons (ds_asg (de_tup (da_cons (de_bin or_mul (de_str (z := [97])) de_int) (da_cons (de_tup (da_cons (de_str (z := [100, 111, 117, 98, 108, 101, 100])) (da_cons de_int (da_cons de_int da_nil)))) da_nil))) (dg_tup rfl (dgs_cons (dg_name (i := 10) nd rfl (loc_by rfl)) (dgs_cons (dg_name (i := 6) nd rfl (loc_by rfl)) dgs_nil)))) (ds_cons (ds_set (i := 3) nd rfl (loc_by rfl) (de_fn H_as_closed rfl hr (by decide) rfl tk (da_cons (de_var (i := 6) rfl (vis_by rfl)) (da_cons (de_bin or_add (de_str (z := [97, 97, 98])) (de_slice (de_var (i := 10) rfl (vis_by rfl)) (do_some de_int) do_none)) (da_cons (de_bin or_add (de_str (z := [97, 98, 98])) (de_slice (de_var (i := 10) rfl (vis_by rfl)) (do_some de_int) do_none)) (da_cons (de_bin or_add (de_str (z := [97, 97, 98, 98])) (de_slice (de_var (i := 10) rfl (vis_by rfl)) (do_some de_int) do_none)) da_nil)))))) (ds_cons (ds_if (DW.t (dw_or (dt_cmp (or_notIn hu) (de_var (i := 3) rfl (vis_by rfl)) (de_fn H__law_readings rfl hr (by decide) rfl tk (da_cons (de_tup (da_cons (de_str (z := [99, 108, 111, 115, 101, 100])) (da_cons de_int (da_cons de_int da_nil)))) (da_cons (de_bin or_add (de_str (z := [97, 97, 98])) (de_slice (de_var (i := 10) rfl (vis_by rfl)) (do_some de_int) do_none)) da_nil)))) (dw_or1 (dt_cmp (or_ne (hu_64 hu)) (de_callB cd_len rfl n_len bt_len (da_cons (de_var (i := 3) rfl (vis_by rfl)) da_nil)) de_int)))) (ds_one (ds_ret de_bl)) ds_nil) (ds_one (ds_ret (de_cmp (or_eq (hu_64 hu)) (de_lam (k := 7) L__law_word xk (by decide) rfl TB rfl hmT huT hr (by decide) (LamX.lamS_by rfl) rfl (fun _ _ _ _ _ => rfl) fun A2 outer2 s2 H2 E2 f2 c2 hr => by
      have hu := hu_of hr
      exact (de_fn H_as_open rfl hr (by decide) rfl (takes_of rfl rfl rfl rfl) (da_cons (de_tup (da_cons (de_str (z := [111, 112, 101, 110])) (da_cons de_int (da_cons de_int da_nil)))) (da_cons (de_str (z := [97])) (da_cons (de_str (z := [98])) (da_cons (de_str (z := [42])) da_nil)))))) (de_str (z := [114, 117, 108, 101])))))))))), ok_law⟩

end Tw
namespace Tw
open PySem PySem.Spec PyProof.Rows L2 Hk44
theorem kd_BOUNDS {K : PySem.W.Frag} : ∀ z, (k_BOUNDS z = none ∧ ∀ q ∈ kv_BOUNDS, q.1 ≠ tx z) ∨ ∃ q ∈ kv_BOUNDS, q.1 = tx z ∧ ∃ d, k_BOUNDS z = some d ∧ ∀ H, Rep K H d (q.2.v K) := by
  intro z
  by_cases h1 : z = kF
  · subst h1; exact .inr ⟨("faded", .int 3), by simp [kv_BOUNDS], rfl, _, rfl, fun _ => mk_int⟩
  by_cases h2 : z = kO
  · subst h2; exact .inr ⟨("open", .int 3), by simp [kv_BOUNDS], rfl, _, rfl, fun _ => mk_int⟩
  by_cases h3 : z = kC
  · subst h3; exact .inr ⟨("closed", .int 3), by simp [kv_BOUNDS], rfl, _, rfl, fun _ => mk_int⟩
  by_cases h4 : z = kD
  · subst h4; exact .inr ⟨("doubled", .int 2), by simp [kv_BOUNDS], rfl, _, rfl, fun _ => mk_int⟩
  refine .inl ⟨by simp [k_BOUNDS, h1, h2, h3, h4], fun q hq => ?_⟩
  simp only [kv_BOUNDS, List.mem_cons, List.mem_nil_iff, or_false] at hq
  rcases hq with rfl | rfl | rfl | rfl
  · exact fun e => h1 (tx_inj.mp (show tx z = tx kF from e.symm))
  · exact fun e => h2 (tx_inj.mp (show tx z = tx kO from e.symm))
  · exact fun e => h3 (tx_inj.mp (show tx z = tx kC from e.symm))
  · exact fun e => h4 (tx_inj.mp (show tx z = tx kD from e.symm))
theorem law_start {K : PySem.W.Frag} {w : World} {T : Tb} {H : Hp} {a : Addr} {ns : List Int} (hl : ns.length ≤ 63) (tabs : ∀ p ∈ T.tabs, H p.1 = some (.tbl #[])) (r : Rep K H (.scr ns) (.ref a)) : lift ⟨K, w, T⟩ 1 sp_law [.ref a] H (fun v _ => v = .bl true) fun _ _ _ => False := by
  refine ⟨[.scr ns], fun _ => none, fun d _ => d = .bl true, fun _ _ => False, rfl, Reps.cons r Reps.nil, ⟨fun a o e => (by cases e), fun p hp => ⟨#[], tabs p hp, trivial, fun pos cv e => by cases e⟩⟩, ⟨hl, fun _ => rfl⟩, ?_, ?_⟩
  · intro v d H' h' x r rh q
    have q : d = .bl true := q
    subst q
    exact rel_bl r
  · intro C H' h' x rh q
    exact q.elim
end Tw
/-! the join of tearwords_k44_whole_kinds_compared, printed by wip/genjoin.py -/
namespace Tw
open PySem PySem.Spec PyProof.Rows L2 Hk44
theorem facts_Hk44 {w : World} {K : PySem.W.Frag} {mg : Str → Option Value} {hp : Heap} {fl : Addr} (X : K.In hp) (G : hp.Ns mainGlobals mg) (hfa : mg ("law" : Str) = some (.ref fl)) (c : He.SaysX fa fn ts tf ex w hp K) : LawG PySem.Challenge.rw_tearwords_k44_whole_kinds_compared w K 10 63 "script" mg fl hp := by
  obtain ⟨m1, m2⟩ := He.ba c.more
  obtain ⟨m2, m3⟩ := He.ba m2
  have efl := hfa.symm.trans (He.glo_ok X G (c.t.d.fact 31 (f := .glo "law") rfl))
  cases efl
  have K_BOUNDS : HasKD (PySem.Challenge.rw_tearwords_k44_whole_kinds_compared).prog w K mg "BOUNDS" k_BOUNDS := hasKD_of (kvs := kv_BOUNDS) (says_dic c.t 0 rfl) (He.glo_ok X G (c.t.d.fact 59 (f := .glo "BOUNDS") rfl)) m3 kd_BOUNDS
  have X_NoReading := hasEx_of (ts := lams) (x := "NoReading") (C := .reading) rfl X G (c.t.d.fact 41 (f := .glo "NoReading") rfl) (c.t.d.fact 42 (f := .exc "NoReading") rfl)
  have X_NoRule := hasEx_of (ts := lams) (x := "NoRule") (C := .rule) rfl X G (c.t.d.fact 35 (f := .glo "NoRule") rfl) (c.t.d.fact 36 (f := .exc "NoRule") rfl)
  have X_NoWord := hasEx_of (ts := lams) (x := "NoWord") (C := .word) rfl X G (c.t.d.fact 38 (f := .glo "NoWord") rfl) (c.t.d.fact 39 (f := .exc "NoWord") rfl)
  have c_BLANK := He.str_ok X G (c.t.d.fact 60 (f := .str "BLANK" "?") rfl)
  have c_MARK := He.str_ok X G (c.t.d.fact 61 (f := .str "MARK" "*") rfl)
  have c_MOST_SIGNS := He.int_ok X G (c.t.d.fact 58 (f := .int "MOST_SIGNS" 200) rfl)
  have c_SMALL := He.str_ok X G (c.t.d.fact 57 (f := .str "SMALL" "abcdefghijklmnopqrstuvwxyz") rfl)
  have n_all : mg "all" = none := He.free_ok X G (c.t.d.fact 45 (f := .free "all") rfl)
  have n_bool : mg "bool" = none := He.free_ok X G (c.t.d.fact 46 (f := .free "bool") rfl)
  have n_enumerate : mg "enumerate" = none := He.free_ok X G (c.t.d.fact 47 (f := .free "enumerate") rfl)
  have n_int : mg "int" = none := He.free_ok X G (c.t.d.fact 48 (f := .free "int") rfl)
  have n_isinstance : mg "isinstance" = none := He.free_ok X G (c.t.d.fact 49 (f := .free "isinstance") rfl)
  have n_len : mg "len" = none := He.free_ok X G (c.t.d.fact 50 (f := .free "len") rfl)
  have n_list : mg "list" = none := He.free_ok X G (c.t.d.fact 51 (f := .free "list") rfl)
  have n_min : mg "min" = none := He.free_ok X G (c.t.d.fact 52 (f := .free "min") rfl)
  have n_range : mg "range" = none := He.free_ok X G (c.t.d.fact 53 (f := .free "range") rfl)
  have n_sorted : mg "sorted" = none := He.free_ok X G (c.t.d.fact 54 (f := .free "sorted") rfl)
  have n_str : mg "str" = none := He.free_ok X G (c.t.d.fact 55 (f := .free "str") rfl)
  have n_tuple : mg "tuple" = none := He.free_ok X G (c.t.d.fact 56 (f := .free "tuple") rfl)
  have v_as_closed : mg "as_closed" = some (.ref (He.fAd K ("as_closed", none))) := He.glo_ok X G (c.t.d.fact 12 (f := .glo "as_closed") rfl)
  have v_as_open : mg "as_open" = some (.ref (He.fAd K ("as_open", none))) := He.glo_ok X G (c.t.d.fact 11 (f := .glo "as_open") rfl)
  obtain ⟨fd_is_within, F_is_within⟩ := c.t.d.def_ 0 (d := d_is_within) rfl
  obtain ⟨fd_is_made_of, F_is_made_of⟩ := c.t.d.def_ 1 (d := d_is_made_of) rfl
  obtain ⟨fd_is_text, F_is_text⟩ := c.t.d.def_ 2 (d := d_is_text) rfl
  obtain ⟨fd_need_text, F_need_text⟩ := c.t.d.def_ 3 (d := d_need_text) rfl
  obtain ⟨fd_in_order, F_in_order⟩ := c.t.d.def_ 4 (d := d_in_order) rfl
  obtain ⟨fd_is_rule, F_is_rule⟩ := c.t.d.def_ 5 (d := d_is_rule) rfl
  obtain ⟨fd_raw_tear, F_raw_tear⟩ := c.t.d.def_ 6 (d := d_raw_tear) rfl
  obtain ⟨fd_raw_readings, F_raw_readings⟩ := c.t.d.def_ 7 (d := d_raw_readings) rfl
  obtain ⟨fd_need_kind, F_need_kind⟩ := c.t.d.def_ 8 (d := d_need_kind) rfl
  obtain ⟨fd_need_pair, F_need_pair⟩ := c.t.d.def_ 9 (d := d_need_pair) rfl
  obtain ⟨fd_first_shared, F_first_shared⟩ := c.t.d.def_ 10 (d := d_first_shared) rfl
  obtain ⟨fd_as_open, F_as_open⟩ := c.t.d.def_ 11 (d := d_as_open) rfl
  obtain ⟨fd_as_closed, F_as_closed⟩ := c.t.d.def_ 12 (d := d_as_closed) rfl
  obtain ⟨fd__law_open, F__law_open⟩ := c.t.d.def_ 13 (d := d__law_open) rfl
  obtain ⟨fd__law_spread, F__law_spread⟩ := c.t.d.def_ 14 (d := d__law_spread) rfl
  obtain ⟨fd__law_take, F__law_take⟩ := c.t.d.def_ 15 (d := d__law_take) rfl
  obtain ⟨fd__law_one_of, F__law_one_of⟩ := c.t.d.def_ 16 (d := d__law_one_of) rfl
  obtain ⟨fd__law_sorted, F__law_sorted⟩ := c.t.d.def_ 21 (d := d__law_sorted) rfl
  obtain ⟨fd__law_torn, F__law_torn⟩ := c.t.d.def_ 23 (d := d__law_torn) rfl
  obtain ⟨fd__law_readings, F__law_readings⟩ := c.t.d.def_ 24 (d := d__law_readings) rfl
  obtain ⟨fd__law_word, F__law_word⟩ := c.t.d.def_ 25 (d := d__law_word) rfl
  obtain ⟨fd__law_text, F__law_text⟩ := c.t.d.def_ 26 (d := d__law_text) rfl
  obtain ⟨fd__law_sources, F__law_sources⟩ := c.t.d.def_ 27 (d := d__law_sources) rfl
  obtain ⟨fd__law_any_reading, F__law_any_reading⟩ := c.t.d.def_ 28 (d := d__law_any_reading) rfl
  obtain ⟨fd__law_refused_right, F__law_refused_right⟩ := c.t.d.def_ 29 (d := d__law_refused_right) rfl
  obtain ⟨fd__law_pair_right, F__law_pair_right⟩ := c.t.d.def_ 30 (d := d__law_pair_right) rfl
  obtain ⟨fd_law, F_law⟩ := c.t.d.def_ 31 (d := d_law) rfl
  have sc__law_word : FnScope ["call", "e"] ["call"] (defScope s__law_word) := ⟨rfl, rfl, rfl, by decide +kernel, rfl, by decide +kernel, by decide +kernel⟩
  have L__law_word : HasCat K mg (mkT K lams) "_law_word" [(.rule, [114, 117, 108, 101]), (.word, [119, 111, 114, 100]), (.reading, [114, 101, 97, 100, 105, 110, 103]), (.tear, [111, 100, 100])] [110, 111, 110, 101] := cat_of F__law_word rfl rfl (He.glo_ok X G (c.t.d.fact 25 (f := .glo "_law_word") rfl)) sc__law_word rfl (vis_by rfl) (fun _ => rfl) (.cons rfl (He.glo_ok X G (c.t.d.fact 35 (f := .glo "NoRule") rfl)) rfl (i := 1) rfl rfl (.cons rfl (He.glo_ok X G (c.t.d.fact 38 (f := .glo "NoWord") rfl)) rfl (i := 1) rfl rfl (.cons rfl (He.glo_ok X G (c.t.d.fact 41 (f := .glo "NoReading") rfl)) rfl (i := 1) rfl rfl (.cons rfl (He.glo_ok X G (c.t.d.fact 32 (f := .glo "TearError") rfl)) rfl (i := 1) rfl rfl .nil)))) (F__law_word.bindsN fun _ _ _ _ _ _ us hl => match us, hl with | [_], _ => rfl) rfl rfl
  have bl := FunD.bindsA (ps := ["script"]) F_law fun _ _ _ _ _ _ us hl => match us, hl with | [_], _ => rfl
  refine ⟨fd_law, tf.map (He.cT K), lift ⟨K, w, mkT K lams⟩ 1 sp_law, fun p hp => ?_, fun p hp => ?_, fun p hp => ?_, fun s u => bl s [u] rfl, fun H a l hl _ hT r => law_start hl (fun p hp => ?_) r, fun base KB NB TB => ?_⟩
  · obtain ⟨d, hd, rfl⟩ := List.mem_map.mp hp
    exact c.empty d hd
  · obtain ⟨d, hd, rfl⟩ := List.mem_map.mp hp
    exact c.out d hd
  · obtain ⟨d, hd, rfl⟩ := List.mem_map.mp hp
    exact PySem.W.codeHd_of_K X (c.hd d hd)
  · obtain ⟨x, hx, rfl⟩ := List.mem_map.mp hp
    exact hT (He.cT K (x, none)) (List.mem_map.mpr ⟨(x, none), (show (x, none) ∈ lams.map (fun y => ((y, none) : He.Defn)) from List.mem_map.mpr ⟨x, hx, rfl⟩), rfl⟩)
  have H__law_open : Has (PySem.Challenge.rw_tearwords_k44_whole_kinds_compared).prog w K mg base (mkT K lams) 1 "_law_open" ["script"] sp__law_open := ⟨_, fd__law_open, w__law_open (T := mkT K lams) n_list n_enumerate n_int F__law_open, He.glo_ok X G (c.t.d.fact 13 (f := .glo "_law_open") rfl), F__law_open.kp, F__law_open.bindsN fun _ _ _ _ _ _ us hl => match us, hl with | [_], _ => rfl⟩
  have H__law_spread : Has (PySem.Challenge.rw_tearwords_k44_whole_kinds_compared).prog w K mg base (mkT K lams) 1 "_law_spread" ["cell", "k"] sp__law_spread := ⟨_, fd__law_spread, w__law_spread (T := mkT K lams) n_int F__law_spread, He.glo_ok X G (c.t.d.fact 14 (f := .glo "_law_spread") rfl), F__law_spread.kp, F__law_spread.bindsN fun _ _ _ _ _ _ us hl => match us, hl with | [_, _], _ => rfl⟩
  have H__law_take : Has (PySem.Challenge.rw_tearwords_k44_whole_kinds_compared).prog w K mg base (mkT K lams) 2 "_law_take" ["pen", "many"] sp__law_take := ⟨_, fd__law_take, w__law_take (T := mkT K lams) n_len n_int H__law_spread F__law_take, He.glo_ok X G (c.t.d.fact 15 (f := .glo "_law_take") rfl), F__law_take.kp, F__law_take.bindsN fun _ _ _ _ _ _ us hl => match us, hl with | [_, _], _ => rfl⟩
  have H__law_one_of : Has (PySem.Challenge.rw_tearwords_k44_whole_kinds_compared).prog w K mg base (mkT K lams) 3 "_law_one_of" ["pen", "some"] sp__law_one_of := ⟨_, fd__law_one_of, w__law_one_of (T := mkT K lams) H__law_take n_len F__law_one_of, He.glo_ok X G (c.t.d.fact 16 (f := .glo "_law_one_of") rfl), F__law_one_of.kp, F__law_one_of.bindsN fun _ _ _ _ _ _ us hl => match us, hl with | [_, _], _ => rfl⟩
  have H__law_text : Has (PySem.Challenge.rw_tearwords_k44_whole_kinds_compared).prog w K mg base (mkT K lams) 4 "_law_text" ["pen", "many"] sp__law_text := ⟨_, fd__law_text, w__law_text (T := mkT K lams) n_range H__law_take H__law_one_of F__law_text, He.glo_ok X G (c.t.d.fact 26 (f := .glo "_law_text") rfl), F__law_text.kp, F__law_text.bindsN fun _ _ _ _ _ _ us hl => match us, hl with | [_, _], _ => rfl⟩
  have H__law_any_reading : Has (PySem.Challenge.rw_tearwords_k44_whole_kinds_compared).prog w K mg base (mkT K lams) 5 "_law_any_reading" ["pen", "rule"] sp__law_any_reading := ⟨_, fd__law_any_reading, w__law_any_reading (T := mkT K lams) H__law_text H__law_take F__law_any_reading, He.glo_ok X G (c.t.d.fact 28 (f := .glo "_law_any_reading") rfl), F__law_any_reading.kp, F__law_any_reading.bindsN fun _ _ _ _ _ _ us hl => match us, hl with | [_, _], _ => rfl⟩
  have H__law_sources : Has (PySem.Challenge.rw_tearwords_k44_whole_kinds_compared).prog w K mg base (mkT K lams) 4 "_law_sources" ["pen", "rule", "reading"] sp__law_sources := ⟨_, fd__law_sources, w__law_sources (T := mkT K lams) n_range n_len H__law_one_of F__law_sources, He.glo_ok X G (c.t.d.fact 27 (f := .glo "_law_sources") rfl), F__law_sources.kp, F__law_sources.bindsN fun _ _ _ _ _ _ us hl => match us, hl with | [_, _, _], _ => rfl⟩
  have H__law_torn : Has (PySem.Challenge.rw_tearwords_k44_whole_kinds_compared).prog w K mg base (mkT K lams) 1 "_law_torn" ["kind", "word", "at", "size"] sp__law_torn := ⟨_, fd__law_torn, w__law_torn (T := mkT K lams) n_list F__law_torn, He.glo_ok X G (c.t.d.fact 23 (f := .glo "_law_torn") rfl), F__law_torn.kp, F__law_torn.bindsN fun _ _ _ _ _ _ us hl => match us, hl with | [_, _, _, _], _ => rfl⟩
  have H__law_sorted : Has (PySem.Challenge.rw_tearwords_k44_whole_kinds_compared).prog w K mg base (mkT K lams) 1 "_law_sorted" ["words"] sp__law_sorted := ⟨_, fd__law_sorted, w__law_sorted (T := mkT K lams) n_sorted n_len F__law_sorted, He.glo_ok X G (c.t.d.fact 21 (f := .glo "_law_sorted") rfl), F__law_sorted.kp, F__law_sorted.bindsN fun _ _ _ _ _ _ us hl => match us, hl with | [_], _ => rfl⟩
  have H__law_readings : Has (PySem.Challenge.rw_tearwords_k44_whole_kinds_compared).prog w K mg base (mkT K lams) 2 "_law_readings" ["rule", "word"] sp__law_readings := ⟨_, fd__law_readings, w__law_readings (T := mkT K lams) n_range n_len H__law_torn H__law_sorted F__law_readings, He.glo_ok X G (c.t.d.fact 24 (f := .glo "_law_readings") rfl), F__law_readings.kp, F__law_readings.bindsN fun _ _ _ _ _ _ us hl => match us, hl with | [_, _], _ => rfl⟩
  have H_is_within : Has (PySem.Challenge.rw_tearwords_k44_whole_kinds_compared).prog w K mg base (mkT K lams) 1 "is_within" ["thing", "least", "most"] sp_is_within := ⟨_, fd_is_within, w_is_within (T := mkT K lams) n_isinstance n_int n_bool F_is_within, He.glo_ok X G (c.t.d.fact 0 (f := .glo "is_within") rfl), F_is_within.kp, F_is_within.bindsN fun _ _ _ _ _ _ us hl => match us, hl with | [_, _, _], _ => rfl⟩
  have H_is_rule : Has (PySem.Challenge.rw_tearwords_k44_whole_kinds_compared).prog w K mg base (mkT K lams) 2 "is_rule" ["thing"] sp_is_rule := ⟨_, fd_is_rule, w_is_rule (T := mkT K lams) n_isinstance n_tuple n_len n_str K_BOUNDS H_is_within F_is_rule, He.glo_ok X G (c.t.d.fact 5 (f := .glo "is_rule") rfl), F_is_rule.kp, F_is_rule.bindsN fun _ _ _ _ _ _ us hl => match us, hl with | [_], _ => rfl⟩
  have H_need_kind : Has (PySem.Challenge.rw_tearwords_k44_whole_kinds_compared).prog w K mg base (mkT K lams) 3 "need_kind" ["rule", "kinds"] sp_need_kind := ⟨_, fd_need_kind, w_need_kind (T := mkT K lams) H_is_rule X_NoRule F_need_kind, He.glo_ok X G (c.t.d.fact 8 (f := .glo "need_kind") rfl), F_need_kind.kp, F_need_kind.bindsN fun _ _ _ _ _ _ us hl => match us, hl with | [_, _], _ => rfl⟩
  have H_is_made_of : Has (PySem.Challenge.rw_tearwords_k44_whole_kinds_compared).prog w K mg base (mkT K lams) 1 "is_made_of" ["text", "letters"] sp_is_made_of := ⟨_, fd_is_made_of, w_is_made_of (T := mkT K lams) n_all F_is_made_of, He.glo_ok X G (c.t.d.fact 1 (f := .glo "is_made_of") rfl), F_is_made_of.kp, F_is_made_of.bindsN fun _ _ _ _ _ _ us hl => match us, hl with | [_, _], _ => rfl⟩
  have H_is_text : Has (PySem.Challenge.rw_tearwords_k44_whole_kinds_compared).prog w K mg base (mkT K lams) 2 "is_text" ["thing", "letters"] sp_is_text := ⟨_, fd_is_text, w_is_text (T := mkT K lams) n_isinstance n_str n_len c_MOST_SIGNS H_is_made_of F_is_text, He.glo_ok X G (c.t.d.fact 2 (f := .glo "is_text") rfl), F_is_text.kp, F_is_text.bindsN fun _ _ _ _ _ _ us hl => match us, hl with | [_, _], _ => rfl⟩
  have H_need_text : Has (PySem.Challenge.rw_tearwords_k44_whole_kinds_compared).prog w K mg base (mkT K lams) 3 "need_text" ["thing", "letters"] sp_need_text := ⟨_, fd_need_text, w_need_text (T := mkT K lams) H_is_text X_NoWord F_need_text, He.glo_ok X G (c.t.d.fact 3 (f := .glo "need_text") rfl), F_need_text.kp, F_need_text.bindsN fun _ _ _ _ _ _ us hl => match us, hl with | [_, _], _ => rfl⟩
  have H_raw_tear : Has (PySem.Challenge.rw_tearwords_k44_whole_kinds_compared).prog w K mg base (mkT K lams) 1 "raw_tear" ["kind", "word", "at", "size"] sp_raw_tear := ⟨_, fd_raw_tear, w_raw_tear (T := mkT K lams) c_BLANK c_MARK F_raw_tear, He.glo_ok X G (c.t.d.fact 6 (f := .glo "raw_tear") rfl), F_raw_tear.kp, F_raw_tear.bindsN fun _ _ _ _ _ _ us hl => match us, hl with | [_, _, _, _], _ => rfl⟩
  have H_in_order : Has (PySem.Challenge.rw_tearwords_k44_whole_kinds_compared).prog w K mg base (mkT K lams) 1 "in_order" ["words"] sp_in_order := ⟨_, fd_in_order, w_in_order (T := mkT K lams) n_sorted n_len F_in_order, He.glo_ok X G (c.t.d.fact 4 (f := .glo "in_order") rfl), F_in_order.kp, F_in_order.bindsN fun _ _ _ _ _ _ us hl => match us, hl with | [_], _ => rfl⟩
  have H_raw_readings : Has (PySem.Challenge.rw_tearwords_k44_whole_kinds_compared).prog w K mg base (mkT K lams) 2 "raw_readings" ["rule", "word"] sp_raw_readings := ⟨_, fd_raw_readings, w_raw_readings (T := mkT K lams) n_range n_min n_len H_raw_tear H_in_order F_raw_readings, He.glo_ok X G (c.t.d.fact 7 (f := .glo "raw_readings") rfl), F_raw_readings.kp, F_raw_readings.bindsN fun _ _ _ _ _ _ us hl => match us, hl with | [_, _], _ => rfl⟩
  have H_need_pair : Has (PySem.Challenge.rw_tearwords_k44_whole_kinds_compared).prog w K mg base (mkT K lams) 4 "need_pair" ["rule", "word", "other", "reading"] sp_need_pair := ⟨_, fd_need_pair, w_need_pair (T := mkT K lams) H_need_text c_SMALL X_NoWord n_isinstance n_str n_len c_MOST_SIGNS H_raw_readings X_NoReading F_need_pair, He.glo_ok X G (c.t.d.fact 9 (f := .glo "need_pair") rfl), F_need_pair.kp, F_need_pair.bindsN fun _ _ _ _ _ _ us hl => match us, hl with | [_, _, _, _], _ => rfl⟩
  have H_first_shared : Has (PySem.Challenge.rw_tearwords_k44_whole_kinds_compared).prog w K mg base (mkT K lams) 3 "first_shared" ["kind", "rule", "word", "other"] sp_first_shared := ⟨_, fd_first_shared, w_first_shared (T := mkT K lams) H_raw_readings F_first_shared, He.glo_ok X G (c.t.d.fact 10 (f := .glo "first_shared") rfl), F_first_shared.kp, F_first_shared.bindsN fun _ _ _ _ _ _ us hl => match us, hl with | [_, _, _, _], _ => rfl⟩
  have H_as_open : Has (PySem.Challenge.rw_tearwords_k44_whole_kinds_compared).prog w K mg base (mkT K lams) 5 "as_open" ["rule", "word", "other", "reading"] sp_as_open := ⟨_, fd_as_open, w_as_open (T := mkT K lams) H_need_kind H_need_pair H_first_shared F_as_open, He.glo_ok X G (c.t.d.fact 11 (f := .glo "as_open") rfl), F_as_open.kp, F_as_open.bindsN fun _ _ _ _ _ _ us hl => match us, hl with | [_, _, _, _], _ => rfl⟩
  have V_as_open : HasV (PySem.Challenge.rw_tearwords_k44_whole_kinds_compared).prog w K mg base (mkT K lams) 5 "as_open" ["rule", "word", "other", "reading"] sp_as_open := ⟨fd_as_open, w_as_open (T := mkT K lams) H_need_kind H_need_pair H_first_shared F_as_open, F_as_open.kp, F_as_open.bindsN fun _ _ _ _ _ _ us hl => match us, hl with | [_, _, _, _], _ => rfl⟩
  have H_as_closed : Has (PySem.Challenge.rw_tearwords_k44_whole_kinds_compared).prog w K mg base (mkT K lams) 5 "as_closed" ["rule", "word", "other", "reading"] sp_as_closed := ⟨_, fd_as_closed, w_as_closed (T := mkT K lams) H_need_kind H_need_pair H_first_shared F_as_closed, He.glo_ok X G (c.t.d.fact 12 (f := .glo "as_closed") rfl), F_as_closed.kp, F_as_closed.bindsN fun _ _ _ _ _ _ us hl => match us, hl with | [_, _, _, _], _ => rfl⟩
  have V_as_closed : HasV (PySem.Challenge.rw_tearwords_k44_whole_kinds_compared).prog w K mg base (mkT K lams) 5 "as_closed" ["rule", "word", "other", "reading"] sp_as_closed := ⟨fd_as_closed, w_as_closed (T := mkT K lams) H_need_kind H_need_pair H_first_shared F_as_closed, F_as_closed.kp, F_as_closed.bindsN fun _ _ _ _ _ _ us hl => match us, hl with | [_, _, _, _], _ => rfl⟩
  have H__law_refused_right : Has (PySem.Challenge.rw_tearwords_k44_whole_kinds_compared).prog w K mg base (mkT K lams) 8 "_law_refused_right" ["rule", "work", "words", "reading"] sp__law_refused_right := ⟨_, fd__law_refused_right, w__law_refused_right (T := mkT K lams) L__law_word V_as_open V_as_closed H__law_readings (excK_of (ts := lams) m1) (TB (He.cT K ("_law_refused_right", none)) (List.mem_map.mpr ⟨("_law_refused_right", none), by simp [tf], rfl⟩)) (tab_in (by simp [lams])) (tab_one m2 (by simp [lams])) F__law_refused_right, He.glo_ok X G (c.t.d.fact 29 (f := .glo "_law_refused_right") rfl), F__law_refused_right.kp, F__law_refused_right.bindsN fun _ _ _ _ _ _ us hl => match us, hl with | [_, _, _, _], _ => rfl⟩
  have H__law_pair_right : Has (PySem.Challenge.rw_tearwords_k44_whole_kinds_compared).prog w K mg base (mkT K lams) 9 "_law_pair_right" ["rule", "words", "reading"] sp__law_pair_right := ⟨_, fd__law_pair_right, w__law_pair_right (T := mkT K lams) v_as_open v_as_closed V_as_open V_as_closed H__law_readings H__law_refused_right F__law_pair_right, He.glo_ok X G (c.t.d.fact 30 (f := .glo "_law_pair_right") rfl), F__law_pair_right.kp, F__law_pair_right.bindsN fun _ _ _ _ _ _ us hl => match us, hl with | [_, _, _], _ => rfl⟩
  exact w_law (T := mkT K lams) H__law_open n_range H__law_one_of H__law_take H__law_any_reading H__law_sources H__law_readings n_len H__law_pair_right H_as_closed L__law_word H_as_open (excK_of (ts := lams) m1) (TB (He.cT K ("law", none)) (List.mem_map.mpr ⟨("law", none), by simp [tf], rfl⟩)) (tab_in (by simp [lams])) (tab_one m2 (by simp [lams])) F_law
end Tw
open PySem PySem.W PySem.Calls PyProof.Rows
theorem PySem.Challenge.cw_tearwords_k44_whole_kinds_compared_holds : PySem.Challenge.rw_tearwords_k44_whole_kinds_compared.Holds := by
  w_on; o_law
  refine HandSHeadRun.head_any (r := OpenLaw.row PySem.Challenge.rw_tearwords_k44_whole_kinds_compared) (q := view (OpenLaw.row PySem.Challenge.rw_tearwords_k44_whole_kinds_compared).prog [45]) (H := Hk44.hk) (ob := Hk44.ob) (M := 4000) (loose := Hk44.loose) (d := HandSHeadRun.topDef (OpenLaw.row PySem.Challenge.rw_tearwords_k44_whole_kinds_compared).prog 45) (kwd := []) Hk44.ob_eq
    (by kernel_rfl) (fun s => by kernel_rfl) Hk44.run (by kernel_rfl) (by kernel_rfl) (by kernel_rfl) (by rfl) (by first | assumption | decide +kernel) (by decide +kernel) ⟨rfl, rfl, rfl, rfl, rfl, by decide +kernel⟩ ?hw ?hc
  case hw => w_witness2
  case hc =>
    refine Tw.walk_G (l := PySem.Challenge.rw_tearwords_k44_whole_kinds_compared) (n := 63) (k := 10) (x := "script") rfl (by decide) (by kernel_rfl) ⟨rfl, by decide, by decide⟩ ?F
    intro w mg fl h Y G hmg0
    obtain ⟨K, KX, c⟩ := Y
    have hmg : mg ("law" : PySem.Str) = some (.ref fl) := by
      have e : (HandSHeadRun.topDef (OpenLaw.row PySem.Challenge.rw_tearwords_k44_whole_kinds_compared).prog 45).name = ("law" : PySem.Str) := by kernel_rfl
      rw [← e]
      exact hmg0
    exact ⟨K, KX, Tw.facts_Hk44 KX G hmg c⟩
