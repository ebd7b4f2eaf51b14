import PyProof.Rows.All
import Wide.All
import OpenK.AllK
import Wide.FinOn
import HandS.ForMost
import HandS.Exc
import HandS.TryOnly
import HandS.TryMany
import HandS.Flow
import HandS.Defaults
import HandS.Codes
import HandS.Lambda
import KE.KDictKeyed
import KE.KeyNested
import HandS.HeadHook1
import HandS.TupAny
import HandS.TupMul
import HandS.Deep
import HandS.Wide
import HandS.Style
import HandS.StrMore
import HandS.Conv
import HandS.IsInst
import HandS.NoneIn
import HandS.CallSlots
import HandS.AnyAll
import HandS.DictComp
import HandS.Dict
import KE.SortData
import HandS.Iter
import HandS.Text
import HandS.ExcOwn
import KE.GoesMore
import HandS.Zip0
import PyProof.ExcBaseAll.ValueError
import HandS.EndTab
import HandS.HeadWalk
import HandS.HeadHook4
import PyProof.ReprRoads
import PyProof.CallFns
import HandS.CallLocal
import HandS.Replace
import HandS.Comp
import HandS.SetFor
import HandS.SetKeys
import HandS.Keys
import HandS.Strs
import PyProof.StrWalks
import KE.GoesEnumKw
import HandS.Small
import KE.KStateDown
import HandS.Base
import HandS.Call
import HandS.Ends
import HandS.More
import HandS.Words
import HandS.WordsExc
import HandS.Head0
import HandS.Head1
import HandS.Head2
import HandS.HeadEnd
import HandS.HeadHook2
import HandS.HeadHook3
import PySem.Challenge.RW_tearwords_k32_words_of_machines
import PyProof.ReprBulk
set_option Elab.async false
set_option linter.all false
set_option maxRecDepth 100000
set_option maxHeartbeats 0
/-! A layer of values as plain data over the hand layer. -/
namespace Tw
open PySem PySem.Spec PyProof.Rows L2

/-- a text of these signs -/
abbrev tx (x : List Nat) : Str := ⟨x.toArray⟩
/-- a value as data: tuples by structure, what may change by its address; scr: the law's script; fn: a def of the program -/
inductive D where
  | non | bl (b : Bool) | int (i : Int) | str (x : List Nat) | ty (n : String) | ref (a : Addr) | tup (ds : List D) | scr (ns : List Int) | fn (n : Str)

/-- what stands at an address -/
inductive DO where
  | lst (ds : List D)
  | dct (kvs : List (Sum Int (List Nat) × D))
  | dth (kvs : List (List D × D))
  | ins (C : Addr) (fs : List (Str × D))
abbrev DHp := Addr → Option DO
abbrev DSt := List (Option D)
def put (h : DHp) (a : Addr) (o : DO) : DHp := fun b => if b = a then some o else h b
theorem put_same {h : DHp} {a : Addr} {o : DO} : put h a o a = some o := by unfold put; rw [if_pos rfl]
theorem put_ne {h : DHp} {a b : Addr} {o : DO} (n : b ≠ a) : put h a o b = h b := by unfold put; rw [if_neg n]
theorem put_put {h : DHp} {a : Addr} {o u : DO} : put (put h a o) a u = put h a u := by
  funext b; unfold put; split <;> rfl

section
variable (K : PySem.W.Frag) (H : Hp)
/-- a tuple: tracked, or the module's own -/
def Tp (a : Addr) (xs : List V) : Prop := H a = some (.tup xs) ∨
  ∃ (o : Obj) (its : Array Value) (n : Nat), K.lookup a = some o ∧ o.cls = .type "tuple" ∧ o.data = .seq its n ∧ its.size ≤ sizeLine ∧ Vals xs its.toList
mutual
def Rep : D → V → Prop
  | .non, v => v = .non
  | .bl b, v => v = .bl b
  | .int i, v => v = .int i
  | .str x, v => v = .str (tx x)
  | .ty n, v => v = .ty n
  | .ref a, v => v = .ref a
  | .tup ds, v => ∃ a xs, v = .ref a ∧ Tp K H a xs ∧ Reps ds xs
  | .scr ns, v => ∃ a, v = .ref a ∧ ((∃ o, H a = some (.frz o (.lst (ns.map V.int)))) ∨
      ∃ (o : Obj) (its : Array Value) (n : Nat), K.lookup a = some o ∧ o.cls = .type "list" ∧ o.dict = none ∧ o.data = .seq its n ∧ its.size ≤ sizeLine ∧ Vals (ns.map V.int) its.toList)
  | .fn n, v => v = .ref (He.fAd K (n, none))
def Reps : List D → List V → Prop
  | [], xs => xs = []
  | d :: ds, xs => ∃ x r, xs = x :: r ∧ Rep d x ∧ Reps ds r
end
end

theorem Tp.sqt {K : PySem.W.Frag} {H : Hp} {a : Addr} {xs : List V} (t : Tp K H a xs) : SqT K H a xs := by
  rcases t with t | t
  · exact .inl (.inl t)
  · exact .inr t

/-- a dict with keys that are tuples: its entries -/
def rawD (a : Addr) (es : Array DictEntry) : HO := .ext fun h => ∃ o ep, h.get? a = some o ∧ o.ExactDict ∧ o.data = .dict es ep
mutual
/-- data as a dict's key -/
def keyD : D → Option NestedKey
  | .non => some .none
  | .bl b => some (.num (if b = true then 1 else 0))
  | .int i => some (.num i)
  | .str x => some (.text (tx x))
  | .tup ds => (keyDs ds).map .tup
  | .ty _ => none
  | .ref _ => none
  | .scr _ => none
  | .fn _ => none
def keyDs : List D → Option (List NestedKey)
  | [] => some []
  | d :: ds => match keyD d, keyDs ds with
    | some k, some ks => some (k :: ks)
    | _, _ => none
end
def ky : Sum Int (List Nat) → Key
  | .inl i => .inl i
  | .inr x => .inr (tx x)
/-- the program's exceptions -/
inductive Ex where
  | tear | machine | rule | word | stretch | reading | side | count | hint | check | kind | things | desk | deed | undo | twice | notThere | tooGreat | rivals
  deriving DecidableEq
/-- the code objects' tables; where the exceptions' classes stand -/
structure Tb where
  tabs : List (Addr × Str)
  ec : Ex → Addr
/-- the context: the written part, the world, the tables of code objects -/
structure Cn where
  K : PySem.W.Frag
  w : World
  T : Tb

section
variable (c : Cn) (H : Hp)
def KReps : List (Sum Int (List Nat) × D) → List (Key × V) → Prop
  | [], xs => xs = []
  | d :: ds, xs => ∃ x r, xs = (ky d.1, x) :: r ∧ Rep c.K H d.2 x ∧ KReps ds r
def FReps : List (Str × D) → List (Str × V) → Prop
  | [], xs => xs = []
  | d :: ds, xs => ∃ x r, xs = (d.1, x) :: r ∧ Rep c.K H d.2 x ∧ FReps ds r
def EReps : List (List D × D) → List DictEntry → Prop
  | [], es => es = []
  | p :: ps, es => ∃ e r, es = e :: r ∧ (∃ k b v, keyD (.tup p.1) = some k ∧ k.depth ≤ 8 ∧ e.hash = k.hash c.w ∧ e.key = .ref b ∧ Rep c.K H (.tup p.1) (.ref b) ∧ RelV v e.val ∧ Rep c.K H p.2 v) ∧ EReps ps r
/-- what D says of an address is so -/
def ObR (a : Addr) : DO → Prop
  | .lst ds => ∃ xs, H a = some (.lst xs) ∧ Reps c.K H ds xs
  | .dct kvs => ∃ ks, H a = some (.dK ks) ∧ KReps c H kvs ks
  | .dth kvs => ∃ es, H a = some (rawD a es) ∧ EReps c H kvs es.toList ∧ (kvs.map fun p => keyD (.tup p.1)).Nodup ∧ (a == sysModules) = false
  | .ins C fs => ∃ dx gs, H a = some (.ins C dx gs) ∧ FReps c H fs gs
structure RelH (h : DHp) : Prop where
  at_ : ∀ a o, h a = some o → ObR c H a o
  tabs : LamX.Tabs c.T.tabs H
def RelS (δ : DSt) (σ : L2.St) : Prop := δ.length = σ.length ∧ ∀ (i : Nat) d, δ[i]? = some (some d) → ∃ v, σ[i]? = some (some v) ∧ Rep c.K H d v
end

/-- what D does not see stays, and stays unseen (the tables of code objects apart) -/
def Ext (h h' : DHp) (H H' : Hp) : Prop := ∀ a o, h a = none → H a = some o → (∀ ps, o ≠ .tbl ps) → H' a = some o ∧ h' a = none
theorem Ext.refl {h : DHp} {H : Hp} : Ext h h H H := fun _ o n e _ => ⟨e, n⟩
theorem Ext.trans {h h1 h2 : DHp} {H H1 H2 : Hp} (a : Ext h h1 H H1) (b : Ext h1 h2 H1 H2) : Ext h h2 H H2 := fun c o n e nt =>
  let ⟨e1, n1⟩ := a c o n e nt
  b c o n1 e1 nt
theorem Ext.same {h h' : DHp} {H H' : Hp} (x : Ext h h' H H') {a : Addr} {o : HO} (n : h a = none) (e : H a = some o) (nt : ∀ ps, o ≠ .tbl ps) : H' a = some o := (x a o n e nt).1

section
variable {c : Cn} {H H' : Hp} {h h' : DHp}
/-- a kind that an address that D sees may have -/
def Seen : HO → Prop
  | .lst _ => True
  | .dK _ => True
  | .ins _ _ _ => True
  | .ext _ => True
  | _ => False
theorem ObR.some {a : Addr} {o : DO} (r : ObR c H a o) : ∃ u, H a = some u ∧ Seen u := by
  cases o with
  | lst ds => obtain ⟨xs, e, _⟩ := r; exact ⟨_, e, trivial⟩
  | dct kvs => obtain ⟨xs, e, _⟩ := r; exact ⟨_, e, trivial⟩
  | ins C fs => obtain ⟨dx, xs, e, _⟩ := r; exact ⟨_, e, trivial⟩
  | dth kvs => obtain ⟨es, e, _⟩ := r; exact ⟨_, e, trivial⟩
theorem RelH.fresh (r : RelH c H h) {a : Addr} (n : H a = none) : h a = none := by
  cases e : h a with
  | none => rfl
  | some o =>
    obtain ⟨u, q, _⟩ := (r.at_ a o e).some
    rw [n] at q
    cases q
theorem RelH.unseen (r : RelH c H h) {a : Addr} {u : HO} (n : H a = some u) (t : ¬ Seen u) : h a = none := by
  cases e : h a with
  | none => rfl
  | some o =>
    obtain ⟨w, q, z⟩ := (r.at_ a o e).some
    rw [n] at q
    cases q
    exact (t z).elim
/-- tuples, the script stay -/
def Keeps (H H' : Hp) : Prop := (∀ a xs, H a = some (.tup xs) → H' a = some (.tup xs)) ∧ ∀ a ob u, H a = some (.frz ob u) → H' a = some (.frz ob u)
theorem Ext.keeps (x : Ext h h' H H') (r : RelH c H h) : Keeps H H' :=
  ⟨fun a xs e => x.same (r.unseen e (fun z => z)) e (fun ps q => by cases q), fun a ob u e => x.same (r.unseen e (fun z => z)) e (fun ps q => by cases q)⟩
theorem Tp.keep {K : PySem.W.Frag} {a : Addr} {xs : List V} (k : Keeps H H') (t : Tp K H a xs) : Tp K H' a xs := by
  rcases t with t | t
  · exact .inl (k.1 a xs t)
  · exact .inr t
mutual
theorem Rep.keep {K : PySem.W.Frag} (k : Keeps H H') : ∀ (d : D) (v : V), Rep K H d v → Rep K H' d v
  | .non, _, r => by simp only [Rep] at r ⊢; exact r
  | .bl _, _, r => by simp only [Rep] at r ⊢; exact r
  | .int _, _, r => by simp only [Rep] at r ⊢; exact r
  | .str _, _, r => by simp only [Rep] at r ⊢; exact r
  | .ty _, _, r => by simp only [Rep] at r ⊢; exact r
  | .ref _, _, r => by simp only [Rep] at r ⊢; exact r
  | .fn _, _, r => by simp only [Rep] at r ⊢; exact r
  | .tup ds, _, r => by
    simp only [Rep] at r ⊢
    obtain ⟨a, xs, e, t, q⟩ := r
    exact ⟨a, xs, e, t.keep k, Reps.keep k ds xs q⟩
  | .scr ns, _, r => by
    simp only [Rep] at r ⊢
    obtain ⟨a, e, ⟨o, q⟩ | q⟩ := r
    · exact ⟨a, e, .inl ⟨o, k.2 _ _ _ q⟩⟩
    · exact ⟨a, e, .inr q⟩
theorem Reps.keep {K : PySem.W.Frag} (k : Keeps H H') : ∀ (ds : List D) (xs : List V), Reps K H ds xs → Reps K H' ds xs
  | [], _, r => by simp only [Reps] at r ⊢; exact r
  | d :: ds, _, r => by
    simp only [Reps] at r ⊢
    obtain ⟨x, q, e, r1, r2⟩ := r
    exact ⟨x, q, e, Rep.keep k d x r1, Reps.keep k ds q r2⟩
end
theorem KReps.keep (k : Keeps H H') : ∀ (ds : List (Sum Int (List Nat) × D)) (xs : List (Key × V)), KReps c H ds xs → KReps c H' ds xs
  | [], _, r => r
  | d :: ds, _, ⟨x, q, e, r1, r2⟩ => ⟨x, q, e, Rep.keep k _ _ r1, KReps.keep k ds q r2⟩
theorem FReps.keep (k : Keeps H H') : ∀ (ds : List (Str × D)) (xs : List (Str × V)), FReps c H ds xs → FReps c H' ds xs
  | [], _, r => r
  | d :: ds, _, ⟨x, q, e, r1, r2⟩ => ⟨x, q, e, Rep.keep k _ _ r1, FReps.keep k ds q r2⟩
theorem EReps.keep (k : Keeps H H') : ∀ (ps : List (List D × D)) (es : List DictEntry), EReps c H ps es → EReps c H' ps es
  | [], _, r => r
  | p :: ps, _, ⟨e, r, q, ⟨kk, b, v, e1, e0, e2, e3, e4, e5, e6⟩, t⟩ => ⟨e, r, q, ⟨kk, b, v, e1, e0, e2, e3, Rep.keep k _ _ e4, e5, Rep.keep k _ _ e6⟩, EReps.keep k ps r t⟩
theorem RelS.keep {δ : DSt} {σ : L2.St} (r : RelS c H δ σ) (k : Keeps H H') : RelS c H' δ σ :=
  ⟨r.1, fun i d e => let ⟨v, e1, e2⟩ := r.2 i d e; ⟨v, e1, Rep.keep k d v e2⟩⟩
theorem ObR.keep {a : Addr} {o : DO} (k : Keeps H H') (e : H' a = H a) (r : ObR c H a o) : ObR c H' a o := by
  cases o with
  | lst ds => obtain ⟨xs, e1, e2⟩ := r; exact ⟨xs, by rw [e]; exact e1, Reps.keep k _ _ e2⟩
  | dct kvs => obtain ⟨xs, e1, e2⟩ := r; exact ⟨xs, by rw [e]; exact e1, KReps.keep k _ _ e2⟩
  | ins C fs => obtain ⟨dx, xs, e1, e2⟩ := r; exact ⟨dx, xs, by rw [e]; exact e1, FReps.keep k _ _ e2⟩
  | dth kvs => obtain ⟨es, e1, e2, e3⟩ := r; exact ⟨es, by rw [e]; exact e1, EReps.keep k _ _ e2, e3⟩
theorem Reps.length {K : PySem.W.Frag} : ∀ {ds : List D} {xs : List V}, Reps K H ds xs → xs.length = ds.length
  | [], _, r => by simp only [Reps] at r; subst r; rfl
  | d :: ds, _, r => by
    simp only [Reps] at r
    obtain ⟨x, q, e, r1, r2⟩ := r
    subst e
    simp [r2.length]
theorem Reps.get {K : PySem.W.Frag} : ∀ {ds : List D} {xs : List V} {i : Nat} {d : D}, Reps K H ds xs → ds[i]? = some d → ∃ v, xs[i]? = some v ∧ Rep K H d v
  | [], _, _, _, _, e => by simp at e
  | d :: ds, _, 0, _, r, e => by
    simp only [Reps] at r
    obtain ⟨x, q, e1, r1, r2⟩ := r
    subst e1
    simp at e
    subst e
    exact ⟨x, by simp, r1⟩
  | d :: ds, _, i + 1, _, r, e => by
    simp only [Reps] at r
    obtain ⟨x, q, e1, r1, r2⟩ := r
    subst e1
    obtain ⟨v, h1, h2⟩ := r2.get (i := i) (by simpa using e)
    exact ⟨v, by simpa using h1, h2⟩
theorem Reps.append {K : PySem.W.Frag} : ∀ {ds es : List D} {xs ys : List V}, Reps K H ds xs → Reps K H es ys → Reps K H (ds ++ es) (xs ++ ys)
  | [], _, _, _, r, q => by simp only [Reps] at r; subst r; exact q
  | d :: ds, _, _, _, r, q => by
    simp only [Reps] at r
    obtain ⟨x, z, e1, r1, r2⟩ := r
    subst e1
    simp only [List.cons_append, Reps]
    exact ⟨x, _, rfl, r1, r2.append q⟩
theorem Reps.one {K : PySem.W.Frag} {d : D} {v : V} (r : Rep K H d v) : Reps K H [d] [v] := by simp only [Reps]; exact ⟨v, [], rfl, r, rfl⟩
theorem Reps.cons {K : PySem.W.Frag} {d : D} {v : V} {ds : List D} {xs : List V} (r : Rep K H d v) (q : Reps K H ds xs) : Reps K H (d :: ds) (v :: xs) := by simp only [Reps]; exact ⟨v, xs, rfl, r, q⟩
theorem Reps.nil {K : PySem.W.Frag} : Reps K H [] [] := by simp only [Reps]
theorem Reps.take {K : PySem.W.Frag} : ∀ {ds : List D} {xs : List V} (n : Nat), Reps K H ds xs → Reps K H (ds.take n) (xs.take n)
  | _, _, 0, _ => by simp [Reps]
  | [], _, n + 1, r => by simp only [Reps] at r; subst r; simp [Reps]
  | d :: ds, _, n + 1, r => by
    simp only [Reps] at r
    obtain ⟨x, z, e1, r1, r2⟩ := r
    subst e1
    simp only [List.take_succ_cons, Reps]
    exact ⟨x, _, rfl, r1, r2.take n⟩
theorem Reps.drop {K : PySem.W.Frag} : ∀ {ds : List D} {xs : List V} (n : Nat), Reps K H ds xs → Reps K H (ds.drop n) (xs.drop n)
  | _, _, 0, r => by simpa using r
  | [], _, n + 1, r => by simp only [Reps] at r; subst r; simp [Reps]
  | d :: ds, _, n + 1, r => by
    simp only [Reps] at r
    obtain ⟨x, z, e1, r1, r2⟩ := r
    subst e1
    simp only [List.drop_succ_cons]
    exact r2.drop n
theorem Reps.set {K : PySem.W.Frag} {d : D} {v : V} (r : Rep K H d v) : ∀ {ds : List D} {xs : List V} (i : Nat), Reps K H ds xs → Reps K H (ds.set i d) (xs.set i v)
  | [], _, _, q => by simp only [Reps] at q; subst q; simp [Reps]
  | _ :: ds, _, 0, q => by
    simp only [Reps] at q
    obtain ⟨x, z, e1, r1, r2⟩ := q
    subst e1
    simp only [List.set_cons_zero, Reps]
    exact ⟨v, _, rfl, r, r2⟩
  | _ :: ds, _, i + 1, q => by
    simp only [Reps] at q
    obtain ⟨x, z, e1, r1, r2⟩ := q
    subst e1
    simp only [List.set_cons_succ, Reps]
    exact ⟨x, _, rfl, r1, Reps.set r i r2⟩
theorem keeps_new {a : Addr} {u : HO} (n : H a = none) : Keeps H (upd H a u) := ⟨fun b xs e => by rw [upd_ne (ne_of_none e n)]; exact e, fun b ob z e => by rw [upd_ne (ne_of_none e n)]; exact e⟩
/-- a new object, tracked and seen -/
theorem RelH.laid {a : Addr} {o : DO} {u : HO} (r : RelH c H h) (n : H a = none) (new : ObR c (upd H a u) a o) : RelH c (upd H a u) (put h a o) ∧ Ext h (put h a o) H (upd H a u) := by
  refine ⟨⟨fun b ob e => ?_, r.tabs.ext fun b ob e => by rw [upd_ne (ne_of_none e n)]; exact e⟩, fun b ob nb e nt => ?_⟩
  · by_cases q : b = a
    · subst q
      rw [put_same] at e
      cases e
      exact new
    · rw [put_ne q] at e
      exact (r.at_ b ob e).keep (keeps_new n) (upd_ne q)
  · have q : b ≠ a := ne_of_none e n
    exact ⟨by rw [upd_ne q]; exact e, by rw [put_ne q]; exact nb⟩
/-- a new object that D does not see -/
theorem RelH.hid {a : Addr} {u : HO} (r : RelH c H h) (n : H a = none) : RelH c (upd H a u) h ∧ Ext h h H (upd H a u) := by
  refine ⟨⟨fun b ob e => ?_, r.tabs.ext fun b ob e => by rw [upd_ne (ne_of_none e n)]; exact e⟩, fun b ob nb e nt => ?_⟩
  · have z := r.at_ b ob e
    obtain ⟨w, e1, _⟩ := z.some
    exact z.keep (keeps_new n) (upd_ne (ne_of_none e1 n))
  · exact ⟨by rw [upd_ne (ne_of_none e n)]; exact e, nb⟩
/-- where a record of a code object stands, nothing of ours stands -/
def NoCode (u : HO) : Prop := ∀ (b : Addr) (q : Str), u ≠ LamX.CodeO b q
theorem noCode_lst {xs : List V} : NoCode (.lst xs) := fun b q z => by unfold LamX.CodeO at z; cases z
theorem noCode_dK {xs : List (Key × V)} : NoCode (.dK xs) := fun b q z => by unfold LamX.CodeO at z; cases z
theorem noCode_ins {C dx : Addr} {fs : List (Str × V)} : NoCode (.ins C dx fs) := fun b q z => by unfold LamX.CodeO at z; cases z
/-- a seen object is written: w stood there -/
theorem RelH.wrote {a : Addr} {o o' : DO} {u w : HO} (r : RelH c H h) (e : h a = some o) (ew : H a = some w) (nc : NoCode w) (new : Keeps H (upd H a u) → ObR c (upd H a u) a o') : RelH c (upd H a u) (put h a o') ∧ Ext h (put h a o') H (upd H a u) := by
  obtain ⟨w', ew', sw⟩ := (r.at_ a o e).some
  rw [ew] at ew'
  cases ew'
  have ne_ : ∀ b v, H b = some v → ¬ Seen v → b ≠ a := fun b v q z y => by subst y; rw [ew] at q; cases q; exact z sw
  have k : Keeps H (upd H a u) := ⟨fun b xs q => by rw [upd_ne (ne_ b _ q fun z => z)]; exact q, fun b ob z q => by rw [upd_ne (ne_ b _ q fun z => z)]; exact q⟩
  refine ⟨⟨fun b ob eb => ?_, fun p hp => ?_⟩, fun b ob nb eb nt => ?_⟩
  · by_cases q : b = a
    · subst q
      rw [put_same] at eb
      cases eb
      exact new k
    · rw [put_ne q] at eb
      exact (r.at_ b ob eb).keep k (upd_ne q)
  · obtain ⟨ps, t1, t2, t3⟩ := r.tabs p hp
    refine ⟨ps, by rw [upd_ne (ne_ _ _ t1 fun z => z)]; exact t1, t2, fun pos cv hc => ?_⟩
    obtain ⟨b, e1, e2⟩ := t3 pos cv hc
    exact ⟨b, e1, by rw [upd_ne fun y => by subst y; rw [ew] at e2; exact nc _ _ (Option.some.inj e2)]; exact e2⟩
  · have q : b ≠ a := fun z => by subst z; rw [e] at nb; cases nb
    exact ⟨by rw [upd_ne q]; exact eb, by rw [put_ne q]; exact nb⟩
/-- D may forget what it sees -/
theorem RelH.less {g : DHp} (r : RelH c H h) (l : ∀ a o, g a = some o → h a = some o) : RelH c H g := ⟨fun a o e => r.at_ a o (l a o e), r.tabs⟩
end
end Tw
/-! Rules over data: expressions. -/
namespace Tw
open PySem PySem.Spec PyProof.Rows L2
abbrev DK := D → DHp → Prop
abbrev DX := Ex → DHp → Prop
abbrev ME := DSt → DHp → DK → DX → Prop
abbrev MA := DSt → DHp → (List D → DHp → Prop) → DX → Prop
abbrev MT := DSt → DHp → (Bool → DHp → Prop) → DX → Prop
abbrev cn (X : Cx) (T : Tb) : Cn := ⟨X.K, X.w, T⟩
/-- what comes of data is what comes of values -/
def Bk (c : Cn) (h : DHp) (H : Hp) (Q' : DK) (Q : VK) : Prop := ∀ v d H' h', Ext h h' H H' → Rep c.K H' d v → RelH c H' h' → Q' d h' → Q v H'
def BkX (c : Cn) (h : DHp) (H : Hp) (E' : DX) (W : WX) (σ : L2.St) : Prop := ∀ C H' h', Ext h h' H H' → RelH c H' h' → E' C h' → W (.ref (c.T.ec C)) none σ H'
def up (c : Cn) (W : WX) (m : ME) : TE := fun σ H Q => ∃ δ h Q' E', RelS c H δ σ ∧ RelH c H h ∧ m δ h Q' E' ∧ Bk c h H Q' Q ∧ BkX c h H E' W σ
def upA (c : Cn) (W : WX) (m : MA) : TA := fun σ H Q => ∃ δ h Q' E', RelS c H δ σ ∧ RelH c H h ∧ m δ h Q' E' ∧ (∀ vs ds H' h', Ext h h' H H' → Reps c.K H' ds vs → RelH c H' h' → Q' ds h' → Q vs H') ∧ BkX c h H E' W σ
def upT (c : Cn) (W : WX) (m : MT) : TT := fun σ H Q => ∃ δ h Q' E', RelS c H δ σ ∧ RelH c H h ∧ m δ h Q' E' ∧ (∀ b H' h', Ext h h' H H' → RelH c H' h' → Q' b h' → Q b H') ∧ BkX c h H E' W σ
abbrev DE (X : Cx) (T : Tb) (W : WX) (e : Expr) (m : ME) : Prop := PE X e (up (cn X T) W m)
abbrev DA (X : Cx) (T : Tb) (W : WX) (es : List Expr) (m : MA) : Prop := PA X es (upA (cn X T) W m)
abbrev DT (X : Cx) (T : Tb) (W : WX) (e : Expr) (m : MT) : Prop := PT X e (upT (cn X T) W m)

theorem pe_imp {X : Cx} {e : Expr} {t u : TE} (h : PE X e t) (i : ∀ σ H Q, u σ H Q → t σ H Q) : PE X e u := ⟨fun pins s σ H Q I q => h.run pins s σ H Q I (i σ H Q q)⟩
theorem pa_imp {X : Cx} {e : List Expr} {t u : TA} (h : PA X e t) (i : ∀ σ H Q, u σ H Q → t σ H Q) : PA X e u := ⟨fun pos pins s σ H Q I q => h.run pos pins s σ H Q I (i σ H Q q)⟩
theorem pt_imp {X : Cx} {e : Expr} {t u : TT} (h : PT X e t) (i : ∀ σ H Q, u σ H Q → t σ H Q) : PT X e u := ⟨fun pins s σ H Q I q => h.run pins s σ H Q I (i σ H Q q)⟩

section
variable {c : Cn} {h h1 h2 : DHp} {H H1 H2 : Hp} {Q' : DK} {Q : VK} {E' : DX} {W : WX} {σ : L2.St} {δ : DSt}
theorem Bk.after (k : Bk c h H Q' Q) (x : Ext h h1 H H1) : Bk c h1 H1 Q' Q := fun v d H' h' x' r rh q => k v d H' h' (x.trans x') r rh q
theorem BkX.after (k : BkX c h H E' W σ) (x : Ext h h1 H H1) : BkX c h1 H1 E' W σ := fun C H' h' x' rh q => k C H' h' (x.trans x') rh q
theorem Bk.here (k : Bk c h H Q' Q) {v : V} {d : D} (r : Rep c.K H d v) (rh : RelH c H h) (q : Q' d h) : Q v H := k v d H h Ext.refl r rh q
end

/-! ### operations on values, by data -/
def upO (c : Cn) (rd : D → D → DHp → DK → Prop) : R2 := fun x y H Q => ∃ dx dy h Q', Rep c.K H dx x ∧ Rep c.K H dy y ∧ RelH c H h ∧ rd dx dy h Q' ∧ Bk c h H Q' Q
def OpD (X : Cx) (T : Tb) (f : Value → Value → Sem Value) (rd : D → D → DHp → DK → Prop) : Prop := OpR X f (upO (cn X T) rd)
def dOp (rd : D → D → DHp → DK → Prop) (ma mb : ME) : ME := fun δ h Q E => ma δ h (fun x h1 => mb δ h1 (fun y h2 => rd x y h2 Q) E) E
section
variable {X : Cx} {T : Tb} {W : WX} {a b e : Expr} {es : List Expr} {ma mb m : ME} {ms : MA} {pos : Pos} {rd : D → D → DHp → DK → Prop}
theorem up_op {r : R2} (hr : r = upO (cn X T) rd) : ∀ σ H Q, up (cn X T) W (dOp rd ma mb) σ H Q → tOp r (up (cn X T) W ma) (up (cn X T) W mb) σ H Q := by
  subst hr
  rintro σ H Q ⟨δ, h, Q', E', rs, rh, hm, k, kx⟩
  refine ⟨δ, h, _, E', rs, rh, hm, fun x dx H1 h1 x1 r1 rh1 q1 => ?_, kx⟩
  refine ⟨δ, h1, _, E', rs.keep (x1.keeps rh), rh1, q1, fun y dy H2 h2 x2 r2 rh2 q2 => ?_, kx.after x1⟩
  exact ⟨dx, dy, h2, Q', Rep.keep (x2.keeps rh1) _ _ r1, r2, rh2, q2, k.after (x1.trans x2)⟩
theorem de_bin {op : Operator} (ho : OpD X T (binaryOp op) rd) (ha : DE X T W a ma) (hb : DE X T W b mb) : DE X T W (.BinOp a op b pos) (dOp rd ma mb) := pe_imp (pe_op ho ha hb) (up_op rfl)
theorem de_cmp {op : CmpOp} (ho : OpD X T (compareOp op) rd) (ha : DE X T W a ma) (hb : DE X T W b mb) (hm : behindInMarks op b = false := by first | exact nomark _ | with_unfolding_all rfl) : DE X T W (.Compare a [op] [b] pos) (dOp rd ma mb) := pe_imp (pe_cmpR ho ha hb hm) (up_op rfl)
/-- of a bool -/
def onB (d : D) (k : Bool → Prop) : Prop := match d with | .bl b => k b | _ => False
theorem onB_bl {b : Bool} {k : Bool → Prop} : onB (.bl b) k = k b := rfl
/-- a value that is a bool, as a test -/
def dTest (m : ME) : MT := fun δ h Q E => m δ h (fun d h1 => onB d fun b => Q b h1) E
theorem up_test : ∀ {t : TE}, (∀ σ H Q, up (cn X T) W m σ H Q → t σ H Q) → ∀ σ H Q, upT (cn X T) W (dTest m) σ H Q → tTest t σ H Q := by
  rintro t i σ H Q ⟨δ, h, Q', E', rs, rh, hm, k, kx⟩
  refine i σ H _ ⟨δ, h, _, E', rs, rh, hm, fun v d H1 h1 x1 r1 rh1 q1 => ?_, kx⟩
  cases d with
  | bl b =>
    simp only [Rep] at r1
    exact ⟨b, r1, k b H1 h1 x1 rh1 q1⟩
  | _ => exact False.elim q1
theorem dt_cmp {op : CmpOp} (ho : OpD X T (compareOp op) rd) (ha : DE X T W a ma) (hb : DE X T W b mb) (hm : behindInMarks op b = false := by first | exact nomark _ | with_unfolding_all rfl) : DT X T W (.Compare a [op] [b] pos) (dTest (dOp rd ma mb)) := pt_imp (pt_cmpR ho ha hb hm) (up_test (up_op rfl))

/-! ### names, constants -/
def dVar (i : Nat) : ME := fun δ h Q _ => match δ[i]? with
  | some (some d) => Q d h
  | _ => False
def dC (d : D) : ME := fun _ h Q _ => Q d h
theorem de_var {i : Nat} {x : Str} (hN : X.N[i]? = some x) (hv : Vis X.env.scope x) (hd : (x == ("__debug__" : Str)) = false := by decide) (hcd : (x == ("__classdict__" : Str)) = false := by decide) : DE X T W (.Name x pos) (dVar i) := by
  refine pe_imp (pe_var hN hv hd hcd) ?_
  rintro σ H Q ⟨δ, h, Q', E', rs, rh, q, k, kx⟩
  have z : ∃ d, δ[i]? = some (some d) ∧ Q' d h := by
    unfold dVar at q
    split at q
    · rename_i d e
      exact ⟨d, e, q⟩
    · exact q.elim
  obtain ⟨d, e, q⟩ := z
  obtain ⟨v, e1, r⟩ := rs.2 i d e
  exact ⟨v, e1, k.here r rh q⟩
theorem de_c {v : V} {d : D} (he : PE X e (tC v)) (r : ∀ H, Rep X.K H d v) : DE X T W e (dC d) := by
  refine pe_imp he ?_
  rintro σ H Q ⟨δ, h, Q', E', rs, rh, q, k, kx⟩
  exact k.here (r H) rh q
theorem de_int {i : Int} {j} : DE X T W (.Constant (.int i) j pos) (dC (.int i)) := de_c pe_int fun _ => by simp only [Rep]
theorem de_bl {b : Bool} {j} : DE X T W (.Constant (.bool b) j pos) (dC (.bl b)) := de_c pe_bl fun _ => by simp only [Rep]
theorem de_non {j} : DE X T W (.Constant .none j pos) (dC .non) := de_c pe_non fun _ => by simp only [Rep]
theorem de_str {x : Str} {z : List Nat} {j} (hz : x = tx z := by rfl) : DE X T W (.Constant (.str x) j pos) (dC (.str z)) := by
  subst hz
  exact de_c pe_str fun _ => by simp only [Rep]
theorem de_glob {x : Str} {v : V} {u : Value} {d : D} (hg : Gl X x) (hm : X.mg x = some u) (r : RelV v u) (rp : ∀ H, Rep X.K H d v) (hd : (x == ("__debug__" : Str)) = false := by decide) : DE X T W (.Name x pos) (dC d) := de_c (pe_glob hg hm r hd) rp

/-! ### and, or, not, if -/
variable {A B : MT} {rest : List Expr} {pos' : Pos}
structure DW (X : Cx) (T : Tb) (W : WX) (e : Expr) (m : MT) : Prop where
  w : PW X e (upT (cn X T) W m)
theorem DW.t (h : DW X T W e A) : DT X T W e A := h.w.pt
def dAnd (p q : MT) : MT := fun δ h Q E => p δ h (fun b h1 => (b = true → q δ h1 Q E) ∧ (b = false → Q false h1)) E
def dOr (p q : MT) : MT := fun δ h Q E => p δ h (fun b h1 => (b = true → Q true h1) ∧ (b = false → q δ h1 Q E)) E
def dNot (p : MT) : MT := fun δ h Q E => p δ h (fun b h1 => Q (!b) h1) E
theorem pw_imp {t u : TT} (h : PW X e t) (i : ∀ σ H Q, u σ H Q → t σ H Q) : PW X e u := ⟨fun wh pins s σ H Q I q => h.run wh pins s σ H Q I (i σ H Q q)⟩
theorem up_and : ∀ σ H Q, upT (cn X T) W (dAnd A B) σ H Q → tAnd (upT (cn X T) W A) (upT (cn X T) W B) σ H Q := by
  rintro σ H Q ⟨δ, h, Q', E', rs, rh, hm, k, kx⟩
  refine ⟨δ, h, _, E', rs, rh, hm, fun b H1 h1 x1 rh1 q1 => ?_, kx⟩
  cases b with
  | true => exact ⟨δ, h1, Q', E', rs.keep (x1.keeps rh), rh1, q1.1 rfl, fun b H' h' x' rh' q' => k b H' h' (x1.trans x') rh' q', kx.after x1⟩
  | false => exact k false H1 h1 x1 rh1 (q1.2 rfl)
theorem up_or : ∀ σ H Q, upT (cn X T) W (dOr A B) σ H Q → tOr (upT (cn X T) W A) (upT (cn X T) W B) σ H Q := by
  rintro σ H Q ⟨δ, h, Q', E', rs, rh, hm, k, kx⟩
  refine ⟨δ, h, _, E', rs, rh, hm, fun b H1 h1 x1 rh1 q1 => ?_, kx⟩
  cases b with
  | false => exact ⟨δ, h1, Q', E', rs.keep (x1.keeps rh), rh1, q1.2 rfl, fun b H' h' x' rh' q' => k b H' h' (x1.trans x') rh' q', kx.after x1⟩
  | true => exact k true H1 h1 x1 rh1 (q1.1 rfl)
theorem dw_and1 (ha : DT X T W a A) : DW X T W (.BoolOp .And [a] pos) A := ⟨pw_and1 ha⟩
theorem dw_or1 (ha : DT X T W a A) : DW X T W (.BoolOp .Or [a] pos) A := ⟨pw_or1 ha⟩
theorem dw_and (ha : DT X T W a A) (hb : DW X T W (.BoolOp .And (b :: rest) pos) B) : DW X T W (.BoolOp .And (a :: b :: rest) pos) (dAnd A B) := ⟨pw_imp (pw_and ha hb.w) up_and⟩
theorem dw_or (ha : DT X T W a A) (hb : DW X T W (.BoolOp .Or (b :: rest) pos) B) : DW X T W (.BoolOp .Or (a :: b :: rest) pos) (dOr A B) := ⟨pw_imp (pw_or ha hb.w) up_or⟩
theorem dt_not (ha : DT X T W a A) : DT X T W (.UnaryOp .Not a pos) (dNot A) := by
  refine pt_imp (pt_not ha) ?_
  rintro σ H Q ⟨δ, h, Q', E', rs, rh, hm, k, kx⟩
  exact ⟨δ, h, _, E', rs, rh, hm, fun b H1 h1 x1 rh1 q1 => k _ H1 h1 x1 rh1 q1, kx⟩
/-- as values: bools -/
def dAndV (ma mb : ME) : ME := fun δ h Q E => ma δ h (fun x h1 => onB x fun b => (b = true → mb δ h1 Q E) ∧ (b = false → Q (.bl false) h1)) E
def dOrV (ma mb : ME) : ME := fun δ h Q E => ma δ h (fun x h1 => onB x fun b => (b = true → Q (.bl true) h1) ∧ (b = false → mb δ h1 Q E)) E
def dNotV (ma : ME) : ME := fun δ h Q E => ma δ h (fun x h1 => onB x fun b => Q (.bl (!b)) h1) E
theorem de_one {op} (ha : DE X T W a m) : DE X T W (.BoolOp op [a] pos) m := pe_one ha
theorem de_and (ha : DE X T W a ma) (hb : DE X T W (.BoolOp .And (b :: rest) pos) mb) : DE X T W (.BoolOp .And (a :: b :: rest) pos) (dAndV ma mb) := by
  refine pe_imp (pe_and ha hb) ?_
  rintro σ H Q ⟨δ, h, Q', E', rs, rh, hm, k, kx⟩
  refine ⟨δ, h, _, E', rs, rh, hm, fun v d H1 h1 x1 r1 rh1 q1 => ?_, kx⟩
  cases d with
  | bl b =>
    simp only [Rep] at r1
    cases b with
    | true => exact ⟨true, r1, ⟨δ, h1, Q', E', rs.keep (x1.keeps rh), rh1, q1.1 rfl, k.after x1, kx.after x1⟩⟩
    | false => exact ⟨false, r1, k _ _ _ _ x1 (by simp only [Rep]) rh1 (q1.2 rfl)⟩
  | _ => exact False.elim q1
theorem de_or (ha : DE X T W a ma) (hb : DE X T W (.BoolOp .Or (b :: rest) pos) mb) : DE X T W (.BoolOp .Or (a :: b :: rest) pos) (dOrV ma mb) := by
  refine pe_imp (pe_or ha hb) ?_
  rintro σ H Q ⟨δ, h, Q', E', rs, rh, hm, k, kx⟩
  refine ⟨δ, h, _, E', rs, rh, hm, fun v d H1 h1 x1 r1 rh1 q1 => ?_, kx⟩
  cases d with
  | bl b =>
    simp only [Rep] at r1
    cases b with
    | false => exact ⟨false, r1, ⟨δ, h1, Q', E', rs.keep (x1.keeps rh), rh1, q1.2 rfl, k.after x1, kx.after x1⟩⟩
    | true => exact ⟨true, r1, k _ _ _ _ x1 (by simp only [Rep]) rh1 (q1.1 rfl)⟩
  | _ => exact False.elim q1
theorem de_not (ha : DE X T W a ma) : DE X T W (.UnaryOp .Not a pos) (dNotV ma) := by
  refine pe_imp (pe_not ha) ?_
  rintro σ H Q ⟨δ, h, Q', E', rs, rh, hm, k, kx⟩
  refine ⟨δ, h, _, E', rs, rh, hm, fun v d H1 h1 x1 r1 rh1 q1 => ?_, kx⟩
  cases d with
  | bl b =>
    simp only [Rep] at r1
    exact ⟨b, r1, k _ _ _ _ x1 (by simp only [Rep]) rh1 q1⟩
  | _ => exact False.elim q1
def dIf (p : MT) (ma mb : ME) : ME := fun δ h Q E => p δ h (fun b h1 => (b = true → ma δ h1 Q E) ∧ (b = false → mb δ h1 Q E)) E
theorem de_if {t : Expr} (ht : DT X T W t A) (ha : DE X T W a ma) (hb : DE X T W b mb) : DE X T W (.IfExp t a b pos) (dIf A ma mb) := by
  refine pe_imp (pe_ifExp ht ha hb) ?_
  rintro σ H Q ⟨δ, h, Q', E', rs, rh, hm, k, kx⟩
  refine ⟨δ, h, _, E', rs, rh, hm, fun b H1 h1 x1 rh1 q1 => ?_, kx⟩
  cases b with
  | true => exact ⟨δ, h1, Q', E', rs.keep (x1.keeps rh), rh1, q1.1 rfl, k.after x1, kx.after x1⟩
  | false => exact ⟨δ, h1, Q', E', rs.keep (x1.keeps rh), rh1, q1.2 rfl, k.after x1, kx.after x1⟩

/-! ### argument lists, displays -/
def dNil : MA := fun _ h Q _ => Q [] h
def dCons (m : ME) (ms : MA) : MA := fun δ h Q E => m δ h (fun x h1 => ms δ h1 (fun xs h2 => Q (x :: xs) h2) E) E
theorem da_nil : DA X T W [] dNil := by
  refine pa_imp pa_nil ?_
  rintro σ H Q ⟨δ, h, Q', E', rs, rh, q, k, kx⟩
  exact k [] [] H h Ext.refl Reps.nil rh q
theorem da_cons (ha : DE X T W e m) (hr : DA X T W es ms) (hs : starEach (e :: es) X.env = (false, eval e X.env) :: starEach es X.env := by rfl) : DA X T W (e :: es) (dCons m ms) := by
  refine pa_imp (pa_cons ha hr hs) ?_
  rintro σ H Q ⟨δ, h, Q', E', rs, rh, hm, k, kx⟩
  refine ⟨δ, h, _, E', rs, rh, hm, fun v d H1 h1 x1 r1 rh1 q1 => ?_, kx⟩
  refine ⟨δ, h1, _, E', rs.keep (x1.keeps rh), rh1, q1, fun vs ds H2 h2 x2 r2 rh2 q2 => ?_, kx.after x1⟩
  exact k _ _ _ _ (x1.trans x2) (Reps.cons (Rep.keep (x2.keeps rh1) _ _ r1) r2) rh2 q2
def dTup (ms : MA) : ME := fun δ h Q E => ms δ h (fun ds h1 => ds.length ≤ sizeLine ∧ Q (.tup ds) h1) E
def dLst (ms : MA) : ME := fun δ h Q E => ms δ h (fun ds h1 => ds.length ≤ sizeLine ∧ ∀ p, h1 p = none → Q (.ref p) (put h1 p (.lst ds))) E
theorem de_tup {k} (hs : DA X T W es ms) : DE X T W (.Tuple es k pos) (dTup ms) := by
  refine pe_imp (pe_tup hs) ?_
  rintro σ H Q ⟨δ, h, Q', E', rs, rh, hm, k, kx⟩
  refine ⟨δ, h, _, E', rs, rh, hm, fun vs ds H1 h1 x1 r1 rh1 ⟨z, q1⟩ => ⟨by rw [r1.length]; exact z, fun p n => ?_⟩, kx⟩
  obtain ⟨rh2, x2⟩ := rh1.hid (u := .tup vs) n
  exact k _ _ _ _ (x1.trans x2) (by simp only [Rep]; exact ⟨p, vs, rfl, .inl upd_same, Reps.keep (keeps_new n) _ _ r1⟩) rh2 q1
theorem de_lst (hs : DA X T W es ms) : DE X T W (.List es pos) (dLst ms) := by
  refine pe_imp (pe_lst hs) ?_
  rintro σ H Q ⟨δ, h, Q', E', rs, rh, hm, k, kx⟩
  refine ⟨δ, h, _, E', rs, rh, hm, fun vs ds H1 h1 x1 r1 rh1 ⟨z, q1⟩ => ⟨by rw [r1.length]; exact z, fun p n => ?_⟩, kx⟩
  obtain ⟨rh2, x2⟩ := rh1.laid (o := .lst ds) (u := .lst vs) n ⟨vs, upd_same, Reps.keep (keeps_new n) _ _ r1⟩
  exact k _ _ _ _ (x1.trans x2) (by simp only [Rep]) rh2 (q1 p (rh1.fresh n))
/-- a new list behind a call -/
theorem RelH.newList {c : Cn} {h : DHp} {H : Hp} {p : Addr} {vs : List V} {ds : List D} (rh : RelH c H h) (n : H p = none) (r : Reps c.K H ds vs) : RelH c (upd H p (.lst vs)) (put h p (.lst ds)) ∧ Ext h (put h p (.lst ds)) H (upd H p (.lst vs)) :=
  rh.laid n ⟨vs, upd_same, Reps.keep (keeps_new n) _ _ r⟩
end
end Tw
/-! Rules over data: operations. -/
namespace Tw
open PySem PySem.Spec PyProof.Rows L2
theorem tx_app (a b : List Nat) : tx a ++ tx b = tx (a ++ b) := by
  show (⟨a.toArray ++ b.toArray⟩ : Str) = ⟨(a ++ b).toArray⟩
  rw [List.append_toArray]
theorem tx_len (a : List Nat) : (tx a).length = a.length := by
  show a.toArray.size = a.length
  simp
theorem tx_inj {a b : List Nat} : tx a = tx b ↔ a = b := by
  constructor
  · intro h
    have h1 : a.toArray = b.toArray := congrArg Str.cps h
    simpa using h1
  · intro h; rw [h]
theorem tx_nil : tx [] = Str.empty := rfl

/-! ### data for == -/
mutual
inductive Py (h : DHp) : D → PyData → Prop
  | non : Py h .non .none
  | bl (b : Bool) : Py h (.bl b) (.bool b)
  | int (i : Int) : Py h (.int i) (.int i)
  | str (x : List Nat) : Py h (.str x) (.str (tx x))
  | lst {a : Addr} {ds : List D} {ps : List PyData} : h a = some (.lst ds) → PyA h ds ps → Py h (.ref a) (.list ps)
  | tup {ds : List D} {ps : List PyData} : PyA h ds ps → Py h (.tup ds) (.tuple ps)
inductive PyA (h : DHp) : List D → List PyData → Prop
  | nil : PyA h [] []
  | cons {d : D} {ds : List D} {p : PyData} {ps : List PyData} : Py h d p → PyA h ds ps → PyA h (d :: ds) (p :: ps)
end
section
variable {c : Cn} {h : DHp} {H : Hp}
mutual
theorem Py.dp (rh : RelH c H h) : ∀ (p : PyData) (d : D) (v : V), Py h d p → Rep c.K H d v → Dp c.K H v p
  | .none, _, _, y, r => by
    cases y; simp only [Rep] at r; subst r; exact .non
  | .bool b, _, _, y, r => by
    cases y; simp only [Rep] at r; subst r; exact .bl b
  | .int i, _, _, y, r => by
    cases y; simp only [Rep] at r; subst r; exact .int i
  | .str x, _, _, y, r => by
    cases y; simp only [Rep] at r; subst r; exact .str _
  | .list ps, _, _, y, r => by
    cases y with
    | lst e q =>
      simp only [Rep] at r; subst r
      obtain ⟨xs, e1, e2⟩ := rh.at_ _ _ e
      exact .lst (.inl (.inl e1)) (Py.dpA rh ps _ _ q e2)
  | .tuple ps, _, _, y, r => by
    cases y with
    | tup q =>
      simp only [Rep] at r
      obtain ⟨a, xs, e, t, e2⟩ := r
      subst e
      exact .tup t.sqt (Py.dpA rh ps _ _ q e2)
  | .dict _, _, _, y, _ => by cases y
theorem Py.dpA (rh : RelH c H h) : ∀ (ps : List PyData) (ds : List D) (vs : List V), PyA h ds ps → Reps c.K H ds vs → DpAll c.K H vs ps
  | [], _, _, y, r => by
    cases y; simp only [Reps] at r; subst r; exact .nil
  | p :: ps, _, _, y, r => by
    cases y with
    | cons y1 y2 =>
      simp only [Reps] at r
      obtain ⟨x, z, e, r1, r2⟩ := r
      subst e
      exact .cons (Py.dp rh p _ _ y1 r1) (Py.dpA rh ps _ _ y2 r2)
end
end
/-- scalars that == tells apart at once -/
def scalD : D → D → Option Bool
  | .non, .non => some true
  | .bl a, .bl b => some (a == b)
  | .int a, .int b => some (a == b)
  | .str a, .str b => some (a == b)
  | .non, .int _ => some false
  | .non, .bl _ => some false
  | .non, .str _ => some false
  | .int _, .non => some false
  | .bl _, .non => some false
  | .str _, .non => some false
  | .int _, .str _ => some false
  | .str _, .int _ => some false
  | .bl _, .str _ => some false
  | .str _, .bl _ => some false
  | _, _ => none
def dEq : D → D → DHp → DK → Prop := fun x y h Q => match scalD x y with
  | some b => Q (.bl b) h
  | none => ∃ p q, Py h x p ∧ Py h y q ∧ SeqAt.shaped p = true ∧ SeqAt.shaped q = true ∧ Q (.bl (PyData.eqv p q)) h
def dNe : D → D → DHp → DK → Prop := fun x y h Q => match scalD x y with
  | some b => Q (.bl (!b)) h
  | none => ∃ p q, Py h x p ∧ Py h y q ∧ SeqAt.shaped p = true ∧ SeqAt.shaped q = true ∧ Q (.bl (!PyData.eqv p q)) h
/-- x in a list or a tuple -/
def dInS (x : D) (y : D) (h : DHp) (Q : Bool → Prop) : Prop := ∃ p ps, Py h x p ∧ (Py h y (.list ps) ∧ SeqAt.shaped (.list ps) = true ∨ Py h y (.tuple ps) ∧ SeqAt.shaped (.tuple ps) = true) ∧ SeqAt.shaped p = true ∧ Q (ps.any fun z => PyData.eqv z p)
/-- does a text stand in another -/
def subT (a b : List Nat) : Bool := !(Builtin.Str.occurrences (tx b) (tx a) 0 (tx b).length 1).isEmpty

section
variable {X : Cx} {T : Tb}
theorem rel_non {K : PySem.W.Frag} {H : Hp} {v : V} (r : Rep K H .non v) : v = .non := by simpa only [Rep] using r
theorem rel_bl {K : PySem.W.Frag} {H : Hp} {v : V} {b : Bool} (r : Rep K H (.bl b) v) : v = .bl b := by simpa only [Rep] using r
theorem rel_int {K : PySem.W.Frag} {H : Hp} {v : V} {b : Int} (r : Rep K H (.int b) v) : v = .int b := by simpa only [Rep] using r
theorem rel_str {K : PySem.W.Frag} {H : Hp} {v : V} {b : List Nat} (r : Rep K H (.str b) v) : v = .str (tx b) := by simpa only [Rep] using r
theorem rel_ref {K : PySem.W.Frag} {H : Hp} {v : V} {b : Addr} (r : Rep K H (.ref b) v) : v = .ref b := by simpa only [Rep] using r
theorem rel_tup {K : PySem.W.Frag} {H : Hp} {v : V} {ds : List D} (r : Rep K H (.tup ds) v) : ∃ a xs, v = .ref a ∧ Tp K H a xs ∧ Reps K H ds xs := by simpa only [Rep] using r
theorem mk_non {K : PySem.W.Frag} {H : Hp} : Rep K H .non .non := by simp only [Rep]
theorem mk_bl {K : PySem.W.Frag} {H : Hp} {b : Bool} : Rep K H (.bl b) (.bl b) := by simp only [Rep]
theorem mk_int {K : PySem.W.Frag} {H : Hp} {b : Int} : Rep K H (.int b) (.int b) := by simp only [Rep]
theorem mk_str {K : PySem.W.Frag} {H : Hp} {b : List Nat} : Rep K H (.str b) (.str (tx b)) := by simp only [Rep]
theorem mk_ref {K : PySem.W.Frag} {H : Hp} {a : Addr} : Rep K H (.ref a) (.ref a) := by simp only [Rep]
theorem mk_tup {K : PySem.W.Frag} {H : Hp} {ds : List D} {a : Addr} {xs : List V} (t : Tp K H a xs) (r : Reps K H ds xs) : Rep K H (.tup ds) (.ref a) := by simp only [Rep]; exact ⟨a, xs, rfl, t, r⟩

theorem scal_rep {K : PySem.W.Frag} {H : Hp} {dx dy : D} {x y : V} {b : Bool} (r1 : Rep K H dx x) (r2 : Rep K H dy y) (e : scalD dx dy = some b) : scal x y = true ∧ decide (x = y) = b := by
  cases dx <;> cases dy <;> simp only [scalD, reduceCtorEq, Option.some.injEq] at e <;> subst e <;> simp only [Rep] at r1 r2 <;> subst r1 r2 <;> refine ⟨rfl, ?_⟩ <;> first
    | rfl
    | (rw [Bool.eq_iff_iff]; simp [-Str.mk.injEq]; try exact tx_inj)
    | simp
theorem or_eq (hu : X.A.units + 64 < cLine) : OpD X T (compareOp .Eq) dEq := by
  intro pins s σ H x y v u Q I rx ry hh
  obtain ⟨dx, dy, h, Q', r1, r2, rh, q, k⟩ := hh
  unfold dEq at q
  cases e : scalD dx dy with
  | some b =>
    rw [e] at q
    obtain ⟨z1, z2⟩ := scal_rep r1 r2 e
    exact op_eq pins s σ H x y v u Q I rx ry ⟨z1, by rw [z2]; exact k.here mk_bl rh q⟩
  | none =>
    rw [e] at q
    obtain ⟨p, q', y1, y2, s1, s2, hq⟩ := q
    exact op_eqD hu pins s σ H x y v u Q I rx ry ⟨p, q', y1.dp rh p _ _ r1, y2.dp rh q' _ _ r2, s1, s2, k.here mk_bl rh hq⟩
theorem or_ne (hu : X.A.units + 64 < cLine) : OpD X T (compareOp .NotEq) dNe := by
  intro pins s σ H x y v u Q I rx ry hh
  obtain ⟨dx, dy, h, Q', r1, r2, rh, q, k⟩ := hh
  unfold dNe at q
  cases e : scalD dx dy with
  | some b =>
    rw [e] at q
    obtain ⟨z1, z2⟩ := scal_rep r1 r2 e
    exact op_ne pins s σ H x y v u Q I rx ry ⟨z1, by rw [z2]; exact k.here mk_bl rh q⟩
  | none =>
    rw [e] at q
    obtain ⟨p, q', y1, y2, s1, s2, hq⟩ := q
    exact op_neD hu pins s σ H x y v u Q I rx ry ⟨p, q', y1.dp rh p _ _ r1, y2.dp rh q' _ _ r2, s1, s2, k.here mk_bl rh hq⟩

def dI (g : Int → Int → D) (x y : D) (h : DHp) (Q : DK) : Prop := match x, y with
  | .int i, .int j => Q (g i j) h
  | _, _ => False
theorem ints_of {x y : D} {h : DHp} {Q : DK} {g : Int → Int → D} (q : dI g x y h Q) : ∃ i j, x = .int i ∧ y = .int j ∧ Q (g i j) h := by
  cases x <;> cases y <;> first | exact ⟨_, _, rfl, rfl, q⟩ | exact False.elim q
theorem or_int {f : Value → Value → Sem Value} {g : Int → Int → V} {gd : Int → Int → D} (ho : OpR X f (rI0 g)) (hg : ∀ H i j, Rep X.K H (gd i j) (g i j)) : OpD X T f (dI gd) := by
  intro pins s σ H x y v u Q I rx ry hh
  obtain ⟨dx, dy, h, Q', r1, r2, rh, hq, k⟩ := hh
  obtain ⟨i, j, rfl, rfl, q⟩ := ints_of hq
  exact ho pins s σ H x y v u Q I rx ry ⟨i, j, rel_int r1, rel_int r2, k.here (hg H i j) rh q⟩
def dLt := dI fun i j => .bl (decide (i < j))
def dLe := dI fun i j => .bl (decide (i ≤ j))
def dGt := dI fun i j => .bl (decide (j < i))
def dGe := dI fun i j => .bl (decide (j ≤ i))
def dSub := dI fun i j => .int (i - j)
theorem or_lt : OpD X T (compareOp .Lt) dLt := or_int op_lt fun _ _ _ => mk_bl
theorem or_le : OpD X T (compareOp .LtE) dLe := or_int op_le fun _ _ _ => mk_bl
theorem or_gt : OpD X T (compareOp .Gt) dGt := or_int op_gt fun _ _ _ => mk_bl
theorem or_ge : OpD X T (compareOp .GtE) dGe := or_int op_ge fun _ _ _ => mk_bl
theorem or_sub : OpD X T (binaryOp .Sub) dSub := or_int op_sub fun _ _ _ => mk_int
/-- + -/
def dAdd (x y : D) (h : DHp) (Q : DK) : Prop := match x, y with
  | .int i, .int j => Q (.int (i + j)) h
  | .str a, .str b => a.length + b.length ≤ sizeLine ∧ Q (.str (a ++ b)) h
  | .tup xs, .tup ys => xs.length + ys.length ≤ sizeLine ∧ Q (.tup (xs ++ ys)) h
  | .ref a, .ref b => ∃ xs ys, h a = some (.lst xs) ∧ h b = some (.lst ys) ∧ xs.length + ys.length ≤ sizeLine ∧ ∀ p, h p = none → Q (.ref p) (put h p (.lst (xs ++ ys)))
  | _, _ => False
theorem or_add : OpD X T (binaryOp .Add) dAdd := by
  intro pins s σ H x y v u Q I rx ry hh
  obtain ⟨dx, dy, h, Q', r1, r2, rh, hq, k⟩ := hh
  have fin : ∀ {p : Prop}, (dAdd dx dy h Q' = False) → p := fun e => False.elim (e ▸ hq)
  cases dx <;> cases dy <;> first
    | exact False.elim hq
    | skip
  case int.int i j =>
    exact op_add pins s σ H x y v u Q I rx ry ⟨i, j, rel_int r1, rel_int r2, k.here mk_int rh hq⟩
  case str.str a b =>
    obtain ⟨z, q⟩ := hq
    exact op_add_str pins s σ H x y v u Q I rx ry ⟨_, _, rel_str r1, rel_str r2, by rw [tx_len, tx_len]; exact z, by rw [tx_app]; exact k.here mk_str rh q⟩
  case ref.ref a b =>
    obtain ⟨xs, ys, e1, e2, z, q⟩ := hq
    obtain ⟨vx, a1, b1⟩ := rh.at_ _ _ e1
    obtain ⟨vy, a2, b2⟩ := rh.at_ _ _ e2
    refine op_cat pins s σ H x y v u Q I rx ry ⟨a, b, vx, vy, rel_ref r1, rel_ref r2, a1, a2, by rw [b1.length, b2.length]; exact z, fun p n => ?_⟩
    obtain ⟨rh2, x2⟩ := RelH.newList rh n (b1.append b2)
    exact k _ _ _ _ x2 mk_ref rh2 (q p (rh.fresh n))
  case tup.tup xs ys =>
    obtain ⟨z, q⟩ := hq
    obtain ⟨a, vx, ea, t1, b1⟩ := rel_tup r1
    obtain ⟨b, vy, eb, t2, b2⟩ := rel_tup r2
    refine op_catA pins s σ H x y v u Q I rx ry ⟨a, b, vx, vy, ea, eb, t1.sqt, t2.sqt, by rw [b1.length, b2.length]; exact z, fun e => ?_, fun _ e => ?_, fun _ _ p n => ?_⟩
    · subst e
      cases xs with
      | nil => exact k.here (mk_tup t2 b2) rh q
      | cons _ _ => have := b1.length; simp at this
    · subst e
      cases ys with
      | nil => rw [List.append_nil] at q; exact k.here (mk_tup t1 b1) rh q
      | cons _ _ => have := b2.length; simp at this
    · obtain ⟨rh2, x2⟩ := rh.hid (u := .tup (vx ++ vy)) n
      exact k _ _ _ _ x2 (mk_tup (.inl upd_same) (Reps.keep (keeps_new n) _ _ (b1.append b2))) rh2 q
/-- % by a positive number, // by a positive small one, ** -/
def dMod (x y : D) (h : DHp) (Q : DK) : Prop := match x, y with
  | .int i, .int j => 0 < j ∧ Q (.int (i % j)) h
  | _, _ => False
theorem or_mod : OpD X T (binaryOp .Mod) dMod := by
  intro pins s σ H x y v u Q I rx ry hh
  obtain ⟨dx, dy, h, Q', r1, r2, rh, hq, k⟩ := hh
  cases dx <;> cases dy <;> first
    | exact False.elim hq
    | skip
  case int.int i j => exact op_mod pins s σ H x y v u Q I rx ry ⟨i, j, rel_int r1, rel_int r2, hq.1, k.here mk_int rh hq.2⟩
def dFdiv (x y : D) (h : DHp) (Q : DK) : Prop := match x, y with
  | .int i, .int j => (0 < j ∧ j < 1073741824) ∧ Q (.int (i / j)) h
  | _, _ => False
theorem or_fdiv : OpD X T (binaryOp .FloorDiv) dFdiv := by
  intro pins s σ H x y v u Q I rx ry hh
  obtain ⟨dx, dy, h, Q', r1, r2, rh, hq, k⟩ := hh
  cases dx <;> cases dy <;> first
    | exact False.elim hq
    | skip
  case int.int i j => exact op_fdiv pins s σ H x y v u Q I rx ry ⟨i, j, rel_int r1, rel_int r2, hq.1, k.here mk_int rh hq.2⟩
def dPow (x y : D) (h : DHp) (Q : DK) : Prop := match x, y with
  | .int i, .int j => (0 ≤ j ∧ j ≤ 1000000 ∧ i.natAbs < 2 ^ 64) ∧ Q (.int (i ^ j.toNat)) h
  | _, _ => False
theorem or_pow : OpD X T (binaryOp .Pow) dPow := by
  intro pins s σ H x y v u Q I rx ry hh
  obtain ⟨dx, dy, h, Q', r1, r2, rh, hq, k⟩ := hh
  cases dx <;> cases dy <;> first
    | exact False.elim hq
    | skip
  case int.int i j => exact op_pow pins s σ H x y v u Q I rx ry ⟨i, j, rel_int r1, rel_int r2, hq.1, k.here mk_int rh hq.2⟩
/-- is None -/
def isNon : D → Bool
  | .non => true
  | _ => false
def dIsN (x y : D) (h : DHp) (Q : DK) : Prop := y = .non ∧ Q (.bl (isNon x)) h
def dNotN (x y : D) (h : DHp) (Q : DK) : Prop := y = .non ∧ Q (.bl (!isNon x)) h
theorem rep_non_iff {K : PySem.W.Frag} {H : Hp} {d : D} {v : V} (r : Rep K H d v) : decide (v = .non) = isNon d := by
  cases d with
  | non => have e := rel_non r; subst e; rfl
  | bl b => have e := rel_bl r; subst e; rfl
  | int b => have e := rel_int r; subst e; rfl
  | str b => have e := rel_str r; subst e; rfl
  | ref b => have e := rel_ref r; subst e; rfl
  | tup ds => obtain ⟨a, _, e, _⟩ := rel_tup r; subst e; rfl
  | ty n => simp only [Rep] at r; subst r; rfl
  | scr n => simp only [Rep] at r; obtain ⟨a, e, _⟩ := r; subst e; rfl
  | fn n => simp only [Rep] at r; subst r; rfl
theorem or_isN : OpD X T (compareOp .Is) dIsN := by
  intro pins s σ H x y v u Q I rx ry hh
  obtain ⟨dx, dy, h, Q', r1, r2, rh, ⟨e, q⟩, k⟩ := hh
  subst e
  exact op_isN pins s σ H x y v u Q I rx ry ⟨rel_non r2, by rw [rep_non_iff r1]; exact k.here mk_bl rh q⟩
theorem or_notN : OpD X T (compareOp .IsNot) dNotN := by
  intro pins s σ H x y v u Q I rx ry hh
  obtain ⟨dx, dy, h, Q', r1, r2, rh, ⟨e, q⟩, k⟩ := hh
  subst e
  refine op_notN pins s σ H x y v u Q I rx ry ⟨rel_non r2, ?_⟩
  rw [rep_non_iff r1]
  exact k.here mk_bl rh q
end
end Tw
/-! Rules over data: statements. -/
namespace Tw
open PySem PySem.Spec PyProof.Rows L2
structure DEnds where
  nx : DSt → DHp → Prop
  rt : DK
  bk : DSt → DHp → Prop := fun _ _ => False
  ct : DSt → DHp → Prop := fun _ _ => False
  ex : Ex → DSt → DHp → Prop := fun _ _ _ => False
abbrev MS := DEnds → DSt → DHp → Prop
/-- what comes of data is what comes of values, behind a statement -/
def BkN (c : Cn) (h : DHp) (H : Hp) (N : DSt → DHp → Prop) (M : L2.St → Hp → Prop) : Prop := ∀ σ' δ' H' h', Ext h h' H H' → RelS c H' δ' σ' → RelH c H' h' → N δ' h' → M σ' H'
def BkE (c : Cn) (h : DHp) (H : Hp) (E' : Ex → DSt → DHp → Prop) (W : WX) : Prop := ∀ C σ' δ' H' h', Ext h h' H H' → RelS c H' δ' σ' → RelH c H' h' → E' C δ' h' → W (.ref (c.T.ec C)) none σ' H'
structure BkS (c : Cn) (h : DHp) (H : Hp) (W : WX) (DD : DEnds) (D : Ends) : Prop where
  nx : BkN c h H DD.nx D.nx
  rt : Bk c h H DD.rt D.rt
  bk : BkN c h H DD.bk D.bk
  ct : BkN c h H DD.ct D.ct
  ex : BkE c h H DD.ex W
def upS (c : Cn) (W : WX) (m : MS) : TS := fun D σ H => ∃ δ h DD, RelS c H δ σ ∧ RelH c H h ∧ m DD δ h ∧ BkS c h H W DD D
abbrev DS (X : Cx) (T : Tb) (W : WX) (st : Stmt) (m : MS) : Prop := PS X st (upS (cn X T) W m)
abbrev DSs (X : Cx) (T : Tb) (W : WX) (st : List Stmt) (m : MS) : Prop := PSs X st (upS (cn X T) W m)
theorem ps_imp {X : Cx} {st : Stmt} {t u : TS} (h : PS X st t) (i : ∀ D σ H, u D σ H → t D σ H) : PS X st u := ⟨fun pins s σ H D I q => h.run pins s σ H D I (i D σ H q)⟩
theorem pss_imp {X : Cx} {st : List Stmt} {t u : TS} (h : PSs X st t) (i : ∀ D σ H, u D σ H → t D σ H) : PSs X st u := ⟨fun pins s σ H D I q => h.run pins s σ H D I (i D σ H q)⟩
section
variable {c : Cn} {h h1 : DHp} {H H1 : Hp} {W : WX} {DD : DEnds} {D : Ends} {N : DSt → DHp → Prop} {M : L2.St → Hp → Prop} {E' : Ex → DSt → DHp → Prop}
theorem BkN.after (k : BkN c h H N M) (x : Ext h h1 H H1) : BkN c h1 H1 N M := fun σ' δ' H' h' x' rs rh q => k σ' δ' H' h' (x.trans x') rs rh q
theorem BkE.after (k : BkE c h H E' W) (x : Ext h h1 H H1) : BkE c h1 H1 E' W := fun C σ' δ' H' h' x' rs rh q => k C σ' δ' H' h' (x.trans x') rs rh q
theorem BkS.after (k : BkS c h H W DD D) (x : Ext h h1 H H1) : BkS c h1 H1 W DD D := ⟨k.nx.after x, k.rt.after x, k.bk.after x, k.ct.after x, k.ex.after x⟩
/-- an expression's exceptions within a statement -/
def exE (E' : Ex → DSt → DHp → Prop) (δ : DSt) : DX := fun C h => E' C δ h
theorem BkE.expr (k : BkE c h H E' W) {δ : DSt} {σ : L2.St} (rs : RelS c H δ σ) (rh : RelH c H h) : BkX c h H (exE E' δ) W σ := fun C H' h' x rh' q => k C σ δ H' h' x (rs.keep (x.keeps rh)) rh' q
end

section
variable {X : Cx} {T : Tb} {W : WX} {e : Expr} {st : Stmt} {rest : List Stmt} {m : ME} {t u : MS} {pos : Pos}
def dNext : MS := fun D δ h => D.nx δ h
def dSeq (t u : MS) : MS := fun D δ h => t { D with nx := u D } δ h
theorem ds_nil : DSs X T W [] dNext := by
  refine pss_imp pss_nil ?_
  rintro D σ H ⟨δ, h, DD, rs, rh, q, k⟩
  exact k.nx σ δ H h Ext.refl rs rh q
theorem ds_cons (h1 : DS X T W st t) (h2 : DSs X T W rest u) : DSs X T W (st :: rest) (dSeq t u) := by
  refine pss_imp (pss_cons h1 h2) ?_
  rintro D σ H ⟨δ, h, DD, rs, rh, q, k⟩
  refine ⟨δ, h, _, rs, rh, q, ?_, k.rt, k.bk, k.ct, k.ex⟩
  exact fun σ' δ' H' h' x' rs' rh' q' => ⟨δ', h', DD, rs', rh', q', k.after x'⟩
theorem ds_one (h1 : DS X T W st t) : DSs X T W [st] t := pss_one h1
theorem ds_pass : DS X T W (.Pass pos) dNext := by
  refine ps_imp ps_pass ?_
  rintro D σ H ⟨δ, h, DD, rs, rh, q, k⟩
  exact k.nx σ δ H h Ext.refl rs rh q
def dBreak : MS := fun D δ h => D.bk δ h
theorem ds_break : DS X T W (.Break pos) dBreak := by
  refine ps_imp ps_break ?_
  rintro D σ H ⟨δ, h, DD, rs, rh, q, k⟩
  exact k.bk σ δ H h Ext.refl rs rh q
def dDrop (m : ME) : MS := fun D δ h => m δ h (fun _ h1 => D.nx δ h1) (exE D.ex δ)
theorem ds_expr (he : DE X T W e m) (hs : swapsWith e none pos.line X.env = pure false := by rfl) : DS X T W (.Expr e pos) (dDrop m) := by
  refine ps_imp (ps_expr he hs) ?_
  rintro D σ H ⟨δ, h, DD, rs, rh, q, k⟩
  exact ⟨δ, h, _, _, rs, rh, q, fun v d H1 h1 x1 r1 rh1 q1 => k.nx σ δ H1 h1 x1 (rs.keep (x1.keeps rh)) rh1 q1, k.ex.expr rs rh⟩
def dRet (m : ME) : MS := fun D δ h => m δ h D.rt (exE D.ex δ)
theorem ds_ret (he : DE X T W e m) : DS X T W (.Return (some e) pos) (dRet m) := by
  refine ps_imp (ps_ret he) ?_
  rintro D σ H ⟨δ, h, DD, rs, rh, q, k⟩
  exact ⟨δ, h, _, _, rs, rh, q, k.rt, k.ex.expr rs rh⟩
def dRetN : MS := fun D _ h => D.rt .non h
theorem ds_retN : DS X T W (.Return none pos) dRetN := by
  refine ps_imp ps_retN ?_
  rintro D σ H ⟨δ, h, DD, rs, rh, q, k⟩
  exact k.rt.here mk_non rh q
def dIfS (p : MT) (t u : MS) : MS := fun D δ h => p δ h (fun b h1 => (b = true → t D δ h1) ∧ (b = false → u D δ h1)) (exE D.ex δ)
theorem ds_if {p : MT} {a b : List Stmt} (hc : DT X T W e p) (ha : DSs X T W a t) (hb : DSs X T W b u) : DS X T W (.If e a b pos) (dIfS p t u) := by
  refine ps_imp (ps_if hc ha hb) ?_
  rintro D σ H ⟨δ, h, DD, rs, rh, q, k⟩
  refine ⟨δ, h, _, _, rs, rh, q, fun b H1 h1 x1 rh1 q1 => ?_, k.ex.expr rs rh⟩
  cases b with
  | true => exact ⟨δ, h1, DD, rs.keep (x1.keeps rh), rh1, q1.1 rfl, k.after x1⟩
  | false => exact ⟨δ, h1, DD, rs.keep (x1.keeps rh), rh1, q1.2 rfl, k.after x1⟩
end

/-! ### targets -/
abbrev MG := D → DSt → DHp → (DSt → DHp → Prop) → Prop
abbrev MGs := List D → DSt → DHp → (DSt → DHp → Prop) → Prop
def upG (c : Cn) (m : MG) : TG := fun v σ H Q => ∃ d δ h Q', Rep c.K H d v ∧ RelS c H δ σ ∧ RelH c H h ∧ m d δ h Q' ∧ BkN c h H Q' Q
def upGs (c : Cn) (m : MGs) : TGs := fun vs σ H Q => ∃ ds δ h Q', Reps c.K H ds vs ∧ RelS c H δ σ ∧ RelH c H h ∧ m ds δ h Q' ∧ BkN c h H Q' Q
abbrev DG (X : Cx) (T : Tb) (e : Expr) (m : MG) : Prop := PG X e (upG (cn X T) m)
abbrev DGs (X : Cx) (T : Tb) (es : List Expr) (m : MGs) : Prop := PGs X es (upGs (cn X T) m)
theorem pg_imp {X : Cx} {e : Expr} {t u : TG} (h : PG X e t) (i : ∀ v σ H Q, u v σ H Q → t v σ H Q) : PG X e u := ⟨fun pins s σ H v w Q I r q => h.run pins s σ H v w Q I r (i v σ H Q q)⟩
theorem pgs_imp {X : Cx} {e : List Expr} {t u : TGs} (h : PGs X e t) (i : ∀ v σ H Q, u v σ H Q → t v σ H Q) : PGs X e u := ⟨fun pins s σ H v w Q I r q => h.run pins s σ H v w Q I r (i v σ H Q q)⟩
theorem RelS.set {c : Cn} {H : Hp} {δ : DSt} {σ : L2.St} (r : RelS c H δ σ) (i : Nat) {d : D} {v : V} (rd : Rep c.K H d v) : RelS c H (δ.set i (some d)) (σ.set i (some v)) := by
  refine ⟨by simp [r.1], fun j d' e => ?_⟩
  by_cases q : j = i
  · subst q
    by_cases hl : j < δ.length
    · rw [List.getElem?_set_self hl] at e
      cases e
      exact ⟨v, by rw [List.getElem?_set_self (by rw [← r.1]; exact hl)], rd⟩
    · rw [List.getElem?_eq_none (by simpa using hl)] at e
      cases e
  · rw [List.getElem?_set_ne (Ne.symm q)] at e
    obtain ⟨w, e1, e2⟩ := r.2 j d' e
    exact ⟨w, by rw [List.getElem?_set_ne (Ne.symm q)]; exact e1, e2⟩
section
variable {X : Cx} {T : Tb} {W : WX} {pos : Pos}
def dName (i : Nat) : MG := fun d δ h Q => Q (δ.set i (some d)) h
theorem dg_name {i : Nat} {x : Str} (hN : X.N.Nodup) (hi : X.N[i]? = some x) (hx : Loc X.env.scope x) (hf : X.fn x = true ∨ X.env.scope.names.lookup x = some .local := by first | exact .inl rfl | exact .inr rfl | assumption) : DG X T (.Name x pos) (dName i) := by
  refine pg_imp (pg_name hN hi hx hf) ?_
  rintro v σ H Q ⟨d, δ, h, Q', rd, rs, rh, q, k⟩
  exact k _ _ H h Ext.refl (rs.set i rd) rh q
def dgNil : MGs := fun ds δ h Q => ds = [] ∧ Q δ h
def dgCons (m : MG) (ms : MGs) : MGs := fun ds δ h Q => match ds with | d :: r => m d δ h (fun δ1 h1 => ms r δ1 h1 Q) | [] => False
theorem dgs_nil : DGs X T [] dgNil := by
  refine pgs_imp pgs_nil ?_
  rintro v σ H Q ⟨ds, δ, h, Q', rd, rs, rh, ⟨e, q⟩, k⟩
  subst e
  simp only [Reps] at rd
  exact ⟨rd, k _ _ H h Ext.refl rs rh q⟩
theorem dgs_cons {e : Expr} {es : List Expr} {m : MG} {ms : MGs} (h1 : DG X T e m) (h2 : DGs X T es ms) (hs : (assignEach (e :: es) X.env).map (·.2) = assign e X.env :: (assignEach es X.env).map (·.2) := by rfl) : DGs X T (e :: es) (dgCons m ms) := by
  refine pgs_imp (pgs_cons h1 h2 hs) ?_
  rintro v σ H Q ⟨ds, δ, h, Q', rd, rs, rh, q, k⟩
  cases ds with
  | nil => exact False.elim q
  | cons d r =>
    simp only [Reps] at rd
    obtain ⟨x, z, e1, r1, r2⟩ := rd
    refine ⟨x, z, e1, d, δ, h, _, r1, rs, rh, q, fun σ1 δ1 H1 h1' x1 rs1 rh1 q1 => ?_⟩
    exact ⟨r, δ1, h1', Q', Reps.keep (x1.keeps rh) _ _ r2, rs1, rh1, q1, k.after x1⟩
/-- a tuple, a list of that length -/
def dgTup (n : Nat) (ms : MGs) : MG := fun d δ h Q => match d with
  | .tup ds => ds.length = n ∧ ms ds δ h Q
  | .ref a => (match h a with
    | some (.lst ds) => ds.length = n ∧ ms ds δ h Q
    | _ => False)
  | _ => False
theorem dg_tup {es : List Expr} {k : Nat} {ms : MGs} {n : Nat} (hc : X.calm = true) (h : DGs X T es ms)
    (hn : (assignEach es X.env).length = n := by rfl) (hst : (assignEach es X.env).findIdx? (·.1) = none := by rfl) : DG X T (.Tuple es k pos) (dgTup n ms) := by
  refine ⟨fun pins s σ H v u Q I rv hw => ?_⟩
  obtain ⟨d, δ, h', Q', rd, rs, rh, q, k⟩ := hw
  cases d with
  | tup ds =>
    obtain ⟨hl, q⟩ := q
    obtain ⟨a, xs, e, t, r⟩ := rel_tup rd
    exact (pg_tup hc h hn hst).run pins s σ H v u Q I rv ⟨a, xs, e, t.sqt, by rw [r.length]; exact hl, ds, δ, h', Q', r, rs, rh, q, k⟩
  | ref a =>
    cases e0 : h' a with
    | none => simp [dgTup, e0] at q
    | some o =>
      cases o with
      | lst ds =>
        simp only [dgTup, e0] at q
        obtain ⟨hl, q⟩ := q
        obtain ⟨xs, e1, e2⟩ := rh.at_ _ _ e0
        exact (pg_unl hc h hn hst).run pins s σ H v u Q I rv ⟨a, xs, rel_ref rd, .inl (.inl e1), by rw [e2.length]; exact hl, ds, δ, h', Q', e2, rs, rh, q, k⟩
      | _ => simp [dgTup, e0] at q
  | _ => exact False.elim q

/-! ### assignments -/
def dAsg (m : ME) (g : MG) : MS := fun D δ h => m δ h (fun d h1 => g d δ h1 D.nx) (exE D.ex δ)
theorem up_asg {m : ME} {g : MG} : ∀ D σ H, upS (cn X T) W (dAsg m g) D σ H → tAsg (up (cn X T) W m) (upG (cn X T) g) D σ H := by
  rintro D σ H ⟨δ, h, DD, rs, rh, q, k⟩
  exact ⟨δ, h, _, _, rs, rh, q, fun v d H1 h1 x1 r1 rh1 q1 => ⟨d, δ, h1, _, r1, rs.keep (x1.keeps rh), rh1, q1, k.nx.after x1⟩, k.ex.expr rs rh⟩
theorem ds_asg {tg e : Expr} {m : ME} {g : MG} (he : DE X T W e m) (hg : DG X T tg g) (hs : swapsWithSole [tg] e pos.line X.env = pure false := by rfl) (hw : swappedStores [tg] e X.env = pure none := by rfl)
    (h1 : (assignEach [tg] X.env).map (·.2) = [assign tg X.env] := by rfl) : DS X T W (.Assign [tg] e pos) (dAsg m g) := ps_imp (ps_asg he hg hs hw h1) up_asg
theorem up_name {i : Nat} : ∀ v σ H Q, upG (cn X T) (dName i) v σ H Q → gName i v σ H Q := by
  rintro v σ H Q ⟨d, δ, h, Q', rd, rs, rh, q, k⟩
  exact k _ _ H h Ext.refl (rs.set i rd) rh q
theorem ds_set {i : Nat} {x : Str} {e : Expr} {m : ME} {pos' : Pos} (hN : X.N.Nodup) (hi : X.N[i]? = some x) (hx : Loc X.env.scope x) (he : DE X T W e m) (hs : swapsWith e (some (.Name x pos')) pos.line X.env = pure false := by rfl) (hf : X.fn x = true ∨ X.env.scope.names.lookup x = some .local := by first | exact .inl rfl | exact .inr rfl | assumption) :
    DS X T W (.Assign [.Name x pos'] e pos) (dAsg m (dName i)) := by
  refine ps_imp (ps_set hN hi hx he hs hf) ?_
  rintro D σ H ⟨δ, h, DD, rs, rh, q, k⟩
  refine ⟨δ, h, _, _, rs, rh, q, fun v d H1 h1 x1 r1 rh1 q1 => ?_, k.ex.expr rs rh⟩
  exact k.nx _ _ H1 h1 x1 ((rs.keep (x1.keeps rh)).set i r1) rh1 q1
/-- a, b = x, y and a, b, c = x, y, z: stored from the right -/
def dPar (i j : Nat) (ms : MA) : MS := fun D δ h => ms δ h (fun ds h1 => match ds with | [a, b] => D.nx ((δ.set i (some a)).set j (some b)) h1 | _ => False) (exE D.ex δ)
theorem ds_par {i j : Nat} {x y : Str} {a b : Expr} {ms : MA} {px py pt : Pos} {kt k2 pt2} (hc : X.calm = true) (hN : X.N.Nodup) (hi : X.N[i]? = some x) (hj : X.N[j]? = some y) (hij : i ≠ j)
    (hx : X.env.scope.names.lookup x = some .local) (hy : X.env.scope.names.lookup y = some .local) (ha : DA X T W [a, b] ms)
    (hw : swappedStores [.Tuple [.Name x px, .Name y py] kt pt] (.Tuple [a, b] k2 pt2) X.env = pure (some [x, y]))
    (hs : swapsWithSole [.Tuple [.Name x px, .Name y py] kt pt] (.Tuple [a, b] k2 pt2) pos.line X.env = pure false := by rfl) :
    DS X T W (.Assign [.Tuple [.Name x px, .Name y py] kt pt] (.Tuple [a, b] k2 pt2) pos) (dPar i j ms) := by
  have z := ps_par (X := X) (i := i) (j := j) (x := x) (y := y) (a := a) (b := b) (px := px) (py := py) (pt := pt) (kt := kt) (k2 := k2) (pt2 := pt2) (pos := pos) hc hN hi hj hij hx hy ha hw hs
  refine ps_imp z ?_
  rintro Z σ H ⟨δ, h, DD, rs, rh, q, k⟩
  unfold dPar at q
  unfold tPar
  have fin : ∀ (vs : List V) (ds : List D) (H1 : Hp) (h1 : DHp), Ext h h1 H H1 → Reps X.K H1 ds vs → RelH (cn X T) H1 h1 → (match ds with | [a, b] => DD.nx ((δ.set i (some a)).set j (some b)) h1 | _ => False) → ∃ u v, vs = [u, v] ∧ Z.nx ((σ.set i (some u)).set j (some v)) H1 := by
    intro vs ds H1 h1 x1 r1 rh1 q1
    match ds, q1, r1 with
    | [d1, d2], q1, r1 =>
      simp only [Reps] at r1
      obtain ⟨v1, z1, e1, p1, v2, z2, e2, p2, e3⟩ := r1
      subst e3 e2 e1
      exact ⟨v1, v2, rfl, k.nx _ _ H1 h1 x1 (((rs.keep (x1.keeps rh)).set i p1).set j p2) rh1 q1⟩
  exact ⟨δ, h, _, _, rs, rh, q, fin, k.ex.expr rs rh⟩
def dPar3 (i j l : Nat) (ms : MA) : MS := fun D δ h => ms δ h (fun ds h1 => match ds with | [a, b, c] => D.nx (((δ.set i (some a)).set j (some b)).set l (some c)) h1 | _ => False) (exE D.ex δ)
theorem ds_par3 {i j l : Nat} {x y z : Str} {a b c : Expr} {ms : MA} {px py pz pt : Pos} {kt k2 pt2} (hc : X.calm = true) (hN : X.N.Nodup) (hi : X.N[i]? = some x) (hj : X.N[j]? = some y) (hl : X.N[l]? = some z) (hij : i ≠ j) (hil : i ≠ l) (hjl : j ≠ l)
    (hx : X.env.scope.names.lookup x = some .local) (hy : X.env.scope.names.lookup y = some .local) (hz : X.env.scope.names.lookup z = some .local) (ha : DA X T W [a, b, c] ms)
    (hw : swappedStores [.Tuple [.Name x px, .Name y py, .Name z pz] kt pt] (.Tuple [a, b, c] k2 pt2) X.env = pure (some [x, y, z]))
    (hs : swapsWithSole [.Tuple [.Name x px, .Name y py, .Name z pz] kt pt] (.Tuple [a, b, c] k2 pt2) pos.line X.env = pure false := by rfl) :
    DS X T W (.Assign [.Tuple [.Name x px, .Name y py, .Name z pz] kt pt] (.Tuple [a, b, c] k2 pt2) pos) (dPar3 i j l ms) := by
  have zz := ps_par3 (X := X) (i := i) (j := j) (l := l) (x := x) (y := y) (z := z) (a := a) (b := b) (c := c) (px := px) (py := py) (pz := pz) (pt := pt) (kt := kt) (k2 := k2) (pt2 := pt2) (pos := pos) hc hN hi hj hl hij hil hjl hx hy hz ha hw hs
  refine ps_imp zz ?_
  rintro Z σ H ⟨δ, h, DD, rs, rh, q, k⟩
  unfold dPar3 at q
  unfold tPar3
  have fin : ∀ (vs : List V) (ds : List D) (H1 : Hp) (h1 : DHp), Ext h h1 H H1 → Reps X.K H1 ds vs → RelH (cn X T) H1 h1 → (match ds with | [a, b, c] => DD.nx (((δ.set i (some a)).set j (some b)).set l (some c)) h1 | _ => False) → ∃ u v w, vs = [u, v, w] ∧ Z.nx (((σ.set i (some u)).set j (some v)).set l (some w)) H1 := by
    intro vs ds H1 h1 x1 r1 rh1 q1
    match ds, q1, r1 with
    | [d1, d2, d3], q1, r1 =>
      simp only [Reps] at r1
      obtain ⟨v1, z1, e1, p1, v2, z2, e2, p2, v3, z3, e3, p3, e4⟩ := r1
      subst e4 e3 e2 e1
      exact ⟨v1, v2, v3, rfl, k.nx _ _ H1 h1 x1 ((((rs.keep (x1.keeps rh)).set i p1).set j p2).set l p3) rh1 q1⟩
  exact ⟨δ, h, _, _, rs, rh, q, fin, k.ex.expr rs rh⟩
end

/-! ### while -/
section
variable {X : Cx} {T : Tb} {W : WX} {pos : Pos}
def dWhile (p : MT) (t : MS) : MS := fun D δ h => ∃ V : Nat → DSt → DHp → Prop, (∃ m, V m δ h) ∧ ∀ m δ h, V m δ h →
  p δ h (fun b h1 => (b = true → t { D with nx := fun δ' h' => ∃ m', m' < m ∧ V m' δ' h', ct := fun δ' h' => ∃ m', m' < m ∧ V m' δ' h', bk := D.nx } δ h1) ∧
    (b = false → D.nx δ h1)) (exE D.ex δ)
theorem ds_while {e : Expr} {body : List Stmt} {p : MT} {t : MS} (hp : PassesOwn (model X.prog X.w) X.A X.env X.xe) (hc : DT X T W e p) (hb : DSs X T W body t) : DS X T W (.While e body [] pos) (dWhile p t) := by
  refine ps_imp (ps_while hp hc hb) ?_
  rintro D σ H ⟨δ, h, DD, rs, rh, ⟨V, ⟨m, v0⟩, turn⟩, k⟩
  refine ⟨fun m σ' H' => ∃ δ' h', Ext h h' H H' ∧ RelS (cn X T) H' δ' σ' ∧ RelH (cn X T) H' h' ∧ V m δ' h', ⟨m, δ, h, Ext.refl, rs, rh, v0⟩, ?_⟩
  rintro m1 σ1 H1 ⟨δ1, h1, x1, rs1, rh1, v1⟩
  refine ⟨δ1, h1, _, _, rs1, rh1, turn m1 δ1 h1 v1, fun b H2 h2 x2 rh2 q2 => ?_, (k.ex.after x1).expr rs1 rh1⟩
  cases b with
  | false => exact k.nx _ _ _ _ (x1.trans x2) (rs1.keep (x2.keeps rh1)) rh2 (q2.2 rfl)
  | true =>
    refine ⟨fun σ' H' => ∃ m', m' < m1 ∧ ∃ δ' h', Ext h h' H H' ∧ RelS (cn X T) H' δ' σ' ∧ RelH (cn X T) H' h' ∧ V m' δ' h', fun σ' H' q => q, δ1, h2, _, rs1.keep (x2.keeps rh1), rh2, q2.1 rfl, ?_, (k.rt.after (x1.trans x2)), (k.nx.after (x1.trans x2)), ?_, (k.ex.after (x1.trans x2))⟩
    · exact fun σ3 δ3 H3 h3 x3 rs3 rh3 ⟨m', hm, v3⟩ => ⟨m', hm, δ3, h3, (x1.trans x2).trans x3, rs3, rh3, v3⟩
    · exact fun σ3 δ3 H3 h3 x3 rs3 rh3 ⟨m', hm, v3⟩ => ⟨m', hm, δ3, h3, (x1.trans x2).trans x3, rs3, rh3, v3⟩
end
end Tw
/-! Rules over data: defs and their calls, loops, comprehensions. -/
namespace Tw
open PySem PySem.Spec PyProof.Rows L2
/-- a def's promise over data -/
abbrev SpD := List D → DHp → DK → DX → Prop
def BkK (c : Cn) (h : DHp) (H : Hp) (E' : DX) (E : XK) : Prop := ∀ C H' h', Ext h h' H H' → RelH c H' h' → E' C h' → E (.ref (c.T.ec C)) none H'
def lift (c : Cn) (n : Nat) (sp : SpD) : Sp := fun vs H Q E => ∃ ds h Q' E', ds.length = n ∧ Reps c.K H ds vs ∧ RelH c H h ∧ sp ds h Q' E' ∧ Bk c h H Q' Q ∧ BkK c h H E' E
def dCall (n : Nat) (sp : SpD) (ms : MA) : ME := fun δ h Q E => ms δ h (fun ds h1 => ds.length = n ∧ sp ds h1 Q E) E
section
variable {X : Cx} {T : Tb} {W : WX} {k n : Nat} {f : Addr} {fd : FuncData} {ps : List Str} {sp : SpD} {x : Str} {p pos : Pos} {e : Expr} {es : List Expr} {ms : MA}
theorem de_call (F : FnOk X.prog X.w X.K X.mg X.base (L2.CX X.prog X.w) k f fd ps (lift (cn X T) n sp)) (hr : Room k X.A) (hg : Gl X x) (hm : X.mg x = some (.ref f)) (hk : PySem.W.keepIn X.K (.ref f) = true) (hb : Binds X.K fd ps []) (tk : Takes X W)
    (ha : DA X T W (e :: es) ms) (hdb : (x == ("__debug__" : Str)) = false := by decide) (he : starEach (e :: es) X.env = (false, eval e X.env) :: starEach es X.env := by rfl) (hpl : (backTo pos (starEach es X.env)).any (·.1) = false := by rfl) :
    DE X T W (.Call (.Name x p) (e :: es) [] pos) (dCall n sp ms) := by
  refine pe_imp (pe_callSD (p := p) (pos := pos) (E := WE W) F hr hg hm hk hb .nil (passAt tk) ha hdb he hpl) ?_
  rintro σ H Q ⟨δ, h, Q', E', rs, rh, q, k, kx⟩
  refine ⟨δ, h, _, _, rs, rh, q, fun vs ds H1 h1 x1 r1 rh1 q1 => ?_, kx⟩
  show lift (cn X T) n sp (vs ++ []) H1 Q (WE W σ)
  rw [List.append_nil]
  exact ⟨ds, h1, Q', E', q1.1, r1, rh1, q1.2, k.after x1, fun C H' h' x' rh' q' => kx C H' h' (x1.trans x') rh' q'⟩
end
/-- at a def's end D may forget what it sees -/
def Less (g h : DHp) : Prop := ∀ a o, g a = some o → h a = some o
theorem Less.refl {h : DHp} : Less h h := fun _ _ e => e
theorem Less.trans {a b c : DHp} (h : Less a b) (g : Less b c) : Less a c := fun x o e => g x o (h x o e)
theorem Less.put {h : DHp} {p : Addr} {o : DO} (n : h p = none) : Less h (put h p o) := fun a u e => by
  by_cases q : a = p
  · subst q; rw [n] at e; cases e
  · rw [put_ne q]; exact e
def Fgt (Q : DK) : DK := fun v h => ∃ g, Less g h ∧ Q v g
def endsD (Q : DK) (E : DX) : DEnds := { nx := fun _ h => Fgt Q .non h, rt := Fgt Q, ex := fun C _ h => ∃ g, Less g h ∧ E C g }
theorem Ext.forget {h h' g : DHp} {H H' : Hp} (x : Ext h h' H H') (l : Less g h') : Ext h g H H' := fun a o n e nt => by
  obtain ⟨e1, n1⟩ := x a o n e nt
  refine ⟨e1, ?_⟩
  cases q : g a with
  | none => rfl
  | some u => rw [l a u q] at n1; cases n1
theorem ends_bk {c : Cn} {h : DHp} {H : Hp} {Q' : DK} {Q : VK} {E' : DX} {E : XK} (k1 : Bk c h H Q' Q) (k2 : BkK c h H E' E) : BkS c h H (fun cls d _ H => E cls d H) (endsD Q' E') { nx := fun _ H' => Q .non H', rt := Q } :=
  ⟨fun σ' δ' H' h' x' rs' rh' ⟨g, l, q'⟩ => k1 _ _ _ _ (x'.forget l) mk_non (rh'.less l) q', fun v d H' h' x' r rh' ⟨g, l, q'⟩ => k1 _ _ _ _ (x'.forget l) r (rh'.less l) q', fun _ _ _ _ _ _ _ z => z, fun _ _ _ _ _ _ _ z => z, fun C σ' δ' H' h' x' rs' rh' ⟨g, l, q'⟩ => k2 C H' g (x'.forget l) (rh'.less l) q'⟩
/-- a def keeps its promise -/
def startD (N : List Str) (ds : List D) : DSt := ds.map some ++ List.replicate (N.length - ds.length) none
theorem start_rel {c : Cn} {H : Hp} {N : List Str} {ds : List D} {vs : List V} (r : Reps c.K H ds vs) : RelS c H (startD N ds) (L2.start N vs) := by
  have hl := r.length
  refine ⟨by simp [startD, L2.start, hl], fun i d e => ?_⟩
  unfold startD at e
  by_cases hi : i < ds.length
  · rw [List.getElem?_append_left (by simpa using hi), List.getElem?_map] at e
    cases q : ds[i]? with
    | none => rw [q] at e; cases e
    | some d' =>
      rw [q] at e
      cases e
      obtain ⟨v, e1, e2⟩ := r.get q
      refine ⟨v, ?_, e2⟩
      unfold L2.start
      rw [List.getElem?_append_left (by simpa [hl] using hi), List.getElem?_map, e1]
      rfl
  · rw [List.getElem?_append_right (by simpa using hi)] at e
    have := List.mem_of_getElem? e
    have q := List.eq_of_mem_replicate this
    cases q
section
variable {P : Program} {w : World} {K : PySem.W.Frag} {mg : Str → Option Value} {base : Heap} {x qual : Str} {params : Arguments} {body : List Stmt} {scope : Scope} {f : Addr} {fd : FuncData} {N ps : List Str} {k : Nat} {sp : SpD} {T : Tb}
theorem fnD (F : FunD K x qual params body scope [] [] f fd) (S : FnScope N ps scope)
    (hbody : ∀ (cdv : Value) (A : Around) (outer : List Env) (s : Shared) (H : Hp) (E : XK), Room k (A.deeper (envOfC qual scope s.heap.objs.size f cdv)) →
      Takes (cxOf (L2.CX P w) P w K mg base N qual scope f cdv A outer s H E) (fun cls d _ H => E cls d H) →
      PassesOwn (model P w) (A.deeper (envOfC qual scope s.heap.objs.size f cdv)) (envOfC qual scope s.heap.objs.size f cdv) (cxOf (L2.CX P w) P w K mg base N qual scope f cdv A outer s H E).xe →
      ∃ m, DSs (cxOf (L2.CX P w) P w K mg base N qual scope f cdv A outer s H E) T (fun cls d _ H => E cls d H) body m ∧
        ∀ ds h Q' E', ds.length = ps.length → sp ds h Q' E' → m (endsD Q' E') (startD N ds) h) :
    FnOk P w K mg base (L2.CX P w) (k + 1) f fd ps (lift ⟨K, w, T⟩ ps.length sp) := by
  refine F.ok S (fun vs H Q E hh => ?_) (fun cdv A outer s H vs Q E hr hh => ?_)
  · obtain ⟨ds, h, Q', E', hn, r, _⟩ := hh
    rw [r.length, hn]
  · obtain ⟨ds, h, Q', E', hn, r, rh, q, k1, k2⟩ := hh
    obtain ⟨m, hm, hq⟩ := hbody cdv A outer s H E hr (takes_of rfl rfl rfl rfl) (passes_of rfl)
    exact ⟨_, hm, startD N ds, h, _, start_rel r, rh, hq ds h Q' E' hn q, ends_bk k1 k2⟩
end

/-! ### what is walked -/
abbrev MI := DSt → DHp → (List D → (DHp → Prop) → DHp → Prop) → DX → Prop
structure ItOk (c : Cn) (H0 : Hp) (J : It) (ds : List D) (ok : DHp → Prop) : Prop where
  go : ∀ i H h, Keeps H0 H → RelH c H h → ok h → i < ds.length → J.go i H
  yld : ∀ i H x H' h d, Keeps H0 H → RelH c H h → ok h → ds[i]? = some d → J.yld i H x H' → Rep c.K H' d x ∧ RelH c H' h ∧ Ext h h H H'
  stop : ∀ H h, Keeps H0 H → RelH c H h → ok h → J.stop ds.length H
def upI (c : Cn) (W : WX) (m : MI) : TI := fun σ H R => ∃ δ h R' E', RelS c H δ σ ∧ RelH c H h ∧ m δ h R' E' ∧ (∀ J ds ok H' h', Ext h h' H H' → RelH c H' h' → ItOk c H' J ds ok → R' ds ok h' → R J H') ∧ BkX c h H E' W σ
abbrev DI (X : Cx) (T : Tb) (W : WX) (tg e : Expr) (m : MI) : Prop := PI X tg e (upI (cn X T) W m)
theorem pi_imp {X : Cx} {tg e : Expr} {t u : TI} (h : PI X tg e t) (i : ∀ σ H R, u σ H R → t σ H R) : PI X tg e u := ⟨fun pins s σ H R I q => h.run pins s σ H R I (i σ H R q)⟩
def dIList (m : ME) : MI := fun δ h R E => m δ h (fun d h1 => match d with | .ref a => ∃ ds, h1 a = some (.lst ds) ∧ R ds (fun h => h a = some (.lst ds)) h1 | _ => False) E
def dITup (m : ME) : MI := fun δ h R E => m δ h (fun d h1 => match d with | .tup ds => R ds (fun _ => True) h1 | _ => False) E
theorem Keeps.refl {H : Hp} : Keeps H H := ⟨fun _ _ e => e, fun _ _ _ e => e⟩
section
variable {X : Cx} {T : Tb} {W : WX} {tg e : Expr} {m : ME}
theorem di_list (he : DE X T W e m) : DI X T W tg e (dIList m) := by
  refine pi_imp (pi_list he) ?_
  rintro σ H R ⟨δ, h, R', E', rs, rh, q, k, kx⟩
  refine ⟨δ, h, _, _, rs, rh, q, fun v d H1 h1 x1 r1 rh1 q1 => ?_, kx⟩
  cases d with
  | ref a =>
    obtain ⟨ds, e1, q1⟩ := q1
    obtain ⟨xs, a1, a2⟩ := rh1.at_ _ _ e1
    refine ⟨a, rel_ref r1, ⟨xs, .inl (.inl a1)⟩, k _ ds _ H1 h1 x1 rh1 ⟨fun i H h _ rh ok hi => ?_, fun i H x H' h d _ rh ok hd y => ?_, fun H h _ rh ok => ?_⟩ q1⟩
    · obtain ⟨ys, b1, b2⟩ := rh.at_ _ _ ok
      have hl := b2.length
      exact ⟨ys, ys[i], .inl (.inl b1), by rw [List.getElem?_eq_getElem (by omega)]⟩
    · obtain ⟨ys, b1, b2⟩ := rh.at_ _ _ ok
      obtain ⟨v, c1, c2⟩ := b2.get hd
      obtain ⟨eH, y2⟩ := y
      subst eH
      have := y2 ys (.inl (.inl b1))
      rw [c1] at this
      cases this
      exact ⟨c2, rh, Ext.refl⟩
    · obtain ⟨ys, b1, b2⟩ := rh.at_ _ _ ok
      exact ⟨ys, .inl (.inl b1), by rw [b2.length]; exact Nat.le_refl _⟩
  | _ => exact False.elim q1
theorem di_tup (he : DE X T W e m) : DI X T W tg e (dITup m) := by
  refine pi_imp (pi_tup he) ?_
  rintro σ H R ⟨δ, h, R', E', rs, rh, q, k, kx⟩
  refine ⟨δ, h, _, _, rs, rh, q, fun v d H1 h1 x1 r1 rh1 q1 => ?_, kx⟩
  cases d with
  | tup ds =>
    obtain ⟨a, xs, e1, t1, a2⟩ := rel_tup r1
    refine ⟨a, e1, ⟨xs, t1.sqt⟩, k _ ds _ H1 h1 x1 rh1 ⟨fun i H h kp rh ok hi => ?_, fun i H x H' h d kp rh ok hd y => ?_, fun H h kp rh ok => ?_⟩ q1⟩
    · have hl := a2.length
      exact ⟨xs, xs[i], (t1.keep kp).sqt, by rw [List.getElem?_eq_getElem (by omega)]⟩
    · obtain ⟨v, c1, c2⟩ := (Reps.keep kp _ _ a2).get hd
      obtain ⟨eH, y2⟩ := y
      subst eH
      have := y2 xs (t1.keep kp).sqt
      rw [c1] at this
      cases this
      exact ⟨c2, rh, Ext.refl⟩
    · exact ⟨xs, (t1.keep kp).sqt, by rw [a2.length]; exact Nat.le_refl _⟩
  | _ => exact False.elim q1
/-- range(j), range(i, j) -/
def rngD (lo : Int) (n : Nat) : List D := (List.range n).map fun (i : Nat) => D.int (lo + (i : Int))
theorem rng_ok {c : Cn} {H0 : Hp} (lo : Int) (n : Nat) : ItOk c H0 (Itr lo n) (rngD lo n) (fun _ => True) := by
  refine ⟨fun i H h _ rh _ hi => by simpa [rngD, Itr] using hi, fun i H x H' h d _ rh _ hd y => ?_, fun H h _ rh _ => by simp [rngD, Itr]⟩
  obtain ⟨eH, ex⟩ := y
  subst eH ex
  unfold rngD at hd
  rw [List.getElem?_map] at hd
  cases q : (List.range n)[i]? with
  | none => rw [q] at hd; cases hd
  | some j =>
    rw [q] at hd
    have : j = i := by
      obtain ⟨h1, h2⟩ := List.getElem?_eq_some_iff.mp q
      simpa using h2.symm
    subst this
    cases hd
    exact ⟨mk_int, rh, Ext.refl⟩
def dIRng1 (ms : MA) : MI := fun δ h R E => ms δ h (fun ds h1 => match ds with | [.int j] => (-(2 ^ 62) ≤ j ∧ j < 2 ^ 62) ∧ R (rngD 0 j.toNat) (fun _ => True) h1 | _ => False) E
def dIRng2 (ms : MA) : MI := fun δ h R E => ms δ h (fun ds h1 => match ds with | [.int i, .int j] => (-(2 ^ 62) ≤ i ∧ i < 2 ^ 62 ∧ -(2 ^ 62) ≤ j ∧ j < 2 ^ 62) ∧ R (rngD i (j - i).toNat) (fun _ => True) h1 | _ => False) E
theorem di_rng1 {a : Expr} {ms : MA} {p pos : Pos} (hg : Gl X "range") (hm : X.mg "range" = none) (ha : DA X T W [a] ms) (hs : starEach [a] X.env = [(false, eval a X.env)] := by rfl) : DI X T W tg (.Call (.Name "range" p) [a] [] pos) (dIRng1 ms) := by
  refine pi_imp (pi_range1 hg hm ha hs) ?_
  rintro σ H R ⟨δ, h, R', E', rs, rh, q, k, kx⟩
  have fin : ∀ (vs : List V) (ds : List D) (H1 : Hp) (h1 : DHp), Ext h h1 H H1 → Reps X.K H1 ds vs → RelH (cn X T) H1 h1 → (match ds with | [.int j] => (-(2 ^ 62) ≤ j ∧ j < 2 ^ 62) ∧ R' (rngD 0 j.toNat) (fun _ => True) h1 | _ => False) → ∃ j : Int, vs = [.int j] ∧ -(2 ^ 62) ≤ j ∧ j < 2 ^ 62 ∧ R (Itr 0 j.toNat) H1 := by
    intro vs ds H1 h1 x1 r1 rh1 q1
    match ds, q1, r1 with
    | [.int j], q1, r1 =>
      simp only [Reps, Rep] at r1
      obtain ⟨v1, z1, e1, p1, e2⟩ := r1
      subst e2 p1 e1
      exact ⟨j, rfl, q1.1.1, q1.1.2, k _ _ _ H1 h1 x1 rh1 (rng_ok 0 _) q1.2⟩
  exact ⟨δ, h, _, _, rs, rh, q, fin, kx⟩
theorem di_rng2 {a b : Expr} {ms : MA} {p pos : Pos} (hg : Gl X "range") (hm : X.mg "range" = none) (ha : DA X T W [a, b] ms) (hs : starEach [a, b] X.env = [(false, eval a X.env), (false, eval b X.env)] := by rfl) (hs2 : starEach [b] X.env = [(false, eval b X.env)] := by rfl) : DI X T W tg (.Call (.Name "range" p) [a, b] [] pos) (dIRng2 ms) := by
  refine pi_imp (pi_range2 hg hm ha hs hs2) ?_
  rintro σ H R ⟨δ, h, R', E', rs, rh, q, k, kx⟩
  have fin : ∀ (vs : List V) (ds : List D) (H1 : Hp) (h1 : DHp), Ext h h1 H H1 → Reps X.K H1 ds vs → RelH (cn X T) H1 h1 → (match ds with | [.int i, .int j] => (-(2 ^ 62) ≤ i ∧ i < 2 ^ 62 ∧ -(2 ^ 62) ≤ j ∧ j < 2 ^ 62) ∧ R' (rngD i (j - i).toNat) (fun _ => True) h1 | _ => False) → ∃ i j : Int, vs = [.int i, .int j] ∧ (-(2 ^ 62) ≤ i ∧ i < 2 ^ 62 ∧ -(2 ^ 62) ≤ j ∧ j < 2 ^ 62) ∧ R (Itr i (j - i).toNat) H1 := by
    intro vs ds H1 h1 x1 r1 rh1 q1
    match ds, q1, r1 with
    | [.int i, .int j], q1, r1 =>
      simp only [Reps, Rep] at r1
      obtain ⟨v1, z1, e1, p1, v2, z2, e2, p2, e3⟩ := r1
      subst e3 p2 e2 p1 e1
      exact ⟨i, j, rfl, q1.1, k _ _ _ H1 h1 x1 rh1 (rng_ok i _) q1.2⟩
  exact ⟨δ, h, _, _, rs, rh, q, fin, kx⟩

/-! ### for -/
def ForB (g : MG) (t : MS) (D : DEnds) (δ : DSt) (ds : List Tw.D) (ok : DHp → Prop) (h1 : DHp) : Prop := ∃ V : Nat → DSt → DHp → Prop, V 0 δ h1 ∧ ∀ i δ h, V i δ h → ok h ∧ (i = ds.length → D.nx δ h) ∧
  ∀ d, ds[i]? = some d → g d δ h (fun δ2 h2 => t { D with nx := V (i + 1), ct := V (i + 1), bk := D.nx } δ2 h2)
def dFor (mi : MI) (g : MG) (t : MS) : MS := fun D δ h => mi δ h (fun ds ok h1 => ForB g t D δ ds ok h1) (exE D.ex δ)
theorem ds_for {body : List Stmt} {mi : MI} {g : MG} {t : MS} {pos : Pos} (hp : PassesOwn (model X.prog X.w) X.A X.env X.xe) (hc : X.calm = true) (hi : DI X T W tg e mi) (hg : DG X T tg g) (hb : DSs X T W body t) (hs : ∀ x, foldedSetIterable e X.env x = pure x := by intro _; rfl) :
    DS X T W (.For tg e body [] pos) (dFor mi g t) := by
  refine ps_imp (ps_for hp hc hi hg hb hs) ?_
  rintro Z σ H ⟨δ, h, DD, rs, rh, q, k⟩
  refine ⟨δ, h, _, _, rs, rh, q, fun J ds ok H1 h1 x1 rh1 io q1 => ?_, k.ex.expr rs rh⟩
  obtain ⟨V, v0, turn⟩ := q1
  refine ⟨fun i mm σ' H' => mm = ds.length - i ∧ i ≤ ds.length ∧ ∃ δ' h', Ext h1 h' H1 H' ∧ RelS (cn X T) H' δ' σ' ∧ RelH (cn X T) H' h' ∧ V i δ' h', ⟨ds.length, rfl, Nat.zero_le _, δ, h1, Ext.refl, rs.keep (x1.keeps rh), rh1, v0⟩, ?_⟩
  rintro i mm σ2 H2 ⟨em, hi2, δ2, h2, x2, rs2, rh2, v2⟩
  obtain ⟨ok2, fin, step⟩ := turn i δ2 h2 v2
  by_cases hlt : i < ds.length
  · refine .inr ⟨io.go i H2 h2 (x2.keeps rh1) rh2 ok2 hlt, fun σ' H' => i + 1 ≤ ds.length ∧ ∃ δ' h', Ext h1 h' H1 H' ∧ RelS (cn X T) H' δ' σ' ∧ RelH (cn X T) H' h' ∧ V (i + 1) δ' h', fun σ' H' q' => ⟨ds.length - (i + 1), by omega, rfl, q'⟩, fun x H3 y => ?_⟩
    have hd : ds[i]? = some ds[i] := List.getElem?_eq_getElem hlt
    obtain ⟨r3, rh3, x3⟩ := io.yld i H2 x H3 h2 _ (x2.keeps rh1) rh2 ok2 hd y
    refine ⟨ds[i], δ2, h2, _, r3, rs2.keep (x3.keeps rh2), rh3, step _ hd, fun σ4 δ4 H4 h4 x4 rs4 rh4 q4 => ?_⟩
    have x14 := x2.trans (x3.trans x4)
    exact ⟨δ4, h4, _, rs4, rh4, q4, fun σ5 δ5 H5 h5 x5 rs5 rh5 q5 => ⟨hlt, δ5, h5, x14.trans x5, rs5, rh5, q5⟩, k.rt.after (x1.trans x14), k.nx.after (x1.trans x14), fun σ5 δ5 H5 h5 x5 rs5 rh5 q5 => ⟨hlt, δ5, h5, x14.trans x5, rs5, rh5, q5⟩, k.ex.after (x1.trans x14)⟩
  · have hi3 : i = ds.length := by omega
    subst hi3
    exact .inl ⟨io.stop H2 h2 (x2.keeps rh1) rh2 ok2, k.nx _ _ _ _ (x1.trans x2) rs2 rh2 (fin rfl)⟩
end
end Tw
/-! Rules over data: list comprehensions. -/
namespace Tw
open PySem PySem.Spec PyProof.Rows L2
/-- a comprehension's target: names by slot, tuples of them -/
inductive Pat where
  | nm (i : Nat) | tup (ps : List Pat)
section
variable (K : PySem.W.Frag)
mutual
def patG : Pat → TG
  | .nm i => gName i
  | .tup ps => gTup K ps.length (patGs ps)
def patGs : List Pat → TGs
  | [] => gNil
  | p :: ps => gCons (patG p) (patGs ps)
end
end
mutual
def patB : Pat → D → DSt → Option DSt
  | .nm i, d, δ => some (δ.set i (some d))
  | .tup ps, d, δ => match d with
    | .tup ds => patBs ps ds δ
    | _ => none
def patBs : List Pat → List D → DSt → Option DSt
  | [], ds, δ => match ds with
    | [] => some δ
    | _ :: _ => none
  | p :: ps, ds, δ => match ds with
    | d :: r => match patB p d δ with
      | some δ1 => patBs ps r δ1
      | none => none
    | [] => none
end
mutual
def patV : Pat → List Nat
  | .nm i => [i]
  | .tup ps => patVs ps
def patVs : List Pat → List Nat
  | [] => []
  | p :: ps => patV p ++ patVs ps
end
def dwipe (δ : DSt) : List Nat → DSt
  | [] => δ
  | v :: vs => (dwipe δ vs).set v none
section
variable {c : Cn} {H : Hp} {δ : DSt} {σ : L2.St}
theorem RelS.clr (r : RelS c H δ σ) (i : Nat) : RelS c H (δ.set i none) (σ.set i none) := by
  refine ⟨by simp [r.1], fun j d' e => ?_⟩
  by_cases q : j = i
  · subst q
    by_cases hl : j < δ.length
    · rw [List.getElem?_set_self hl] at e
      cases e
    · rw [List.getElem?_eq_none (by simpa using hl)] at e
      cases e
  · rw [List.getElem?_set_ne (Ne.symm q)] at e
    obtain ⟨w, e1, e2⟩ := r.2 j d' e
    exact ⟨w, by rw [List.getElem?_set_ne (Ne.symm q)]; exact e1, e2⟩
theorem RelS.wipe (r : RelS c H δ σ) : ∀ vs : List Nat, RelS c H (dwipe δ vs) (L2.wipe σ vs)
  | [] => r
  | v :: vs => (RelS.wipe r vs).clr v
theorem wipe_set (σ : L2.St) (x : Option V) : ∀ (vs : List Nat) {i : Nat}, i ∈ vs → L2.wipe (σ.set i x) vs = L2.wipe σ vs
  | v :: vs, i, h => by
    unfold L2.wipe
    by_cases q : i ∈ vs
    · rw [wipe_set σ x vs q]
    · have e : i = v := by
        rcases List.mem_cons.mp h with e | e
        · exact e
        · exact absurd e q
      subst e
      have : ∀ (vs : List Nat), i ∉ vs → L2.wipe (σ.set i x) vs = (L2.wipe σ vs).set i x := by
        intro vs
        induction vs with
        | nil => intro _; rfl
        | cons w ws ih =>
          intro hn
          rw [List.mem_cons, not_or] at hn
          unfold L2.wipe
          rw [ih hn.2, List.set_comm _ _ hn.1]
      rw [this vs q, List.set_set]
mutual
theorem pat_ok : ∀ (p : Pat) (d : D) (v : V) (δ δ2 : DSt) (σ : L2.St) (Q : L2.St → Hp → Prop), patB p d δ = some δ2 → Rep c.K H d v → RelS c H δ σ →
    (∀ σ2, RelS c H δ2 σ2 → (∀ vs, (∀ i ∈ patV p, i ∈ vs) → L2.wipe σ2 vs = L2.wipe σ vs) → Q σ2 H) → patG c.K p v σ H Q
  | .nm i, d, v, δ, δ2, σ, Q, hb, r, rs, k => by
    simp only [patB, Option.some.injEq] at hb
    subst hb
    simp only [patG]
    exact k _ (rs.set i r) fun vs hv => wipe_set σ _ vs (hv i (by simp [patV]))
  | .tup ps, d, v, δ, δ2, σ, Q, hb, r, rs, k => by
    cases d with
    | tup ds =>
      simp only [patB] at hb
      obtain ⟨a, xs, e, t, rr⟩ := rel_tup r
      simp only [patG]
      have hl : ds.length = ps.length := pats_len ps ds δ δ2 hb
      exact ⟨a, xs, e, t.sqt, by rw [rr.length, hl], pats_ok ps ds xs δ δ2 σ Q hb rr rs fun σ2 rs2 w => k σ2 rs2 fun vs hv => w vs (fun i hi => hv i (by simpa [patV] using hi))⟩
    | _ => simp [patB] at hb
theorem pats_ok : ∀ (ps : List Pat) (ds : List D) (vs : List V) (δ δ2 : DSt) (σ : L2.St) (Q : L2.St → Hp → Prop), patBs ps ds δ = some δ2 → Reps c.K H ds vs → RelS c H δ σ →
    (∀ σ2, RelS c H δ2 σ2 → (∀ vs, (∀ i ∈ patVs ps, i ∈ vs) → L2.wipe σ2 vs = L2.wipe σ vs) → Q σ2 H) → patGs c.K ps vs σ H Q
  | [], ds, vs, δ, δ2, σ, Q, hb, r, rs, k => by
    cases ds with
    | nil =>
      simp only [patBs, Option.some.injEq] at hb
      subst hb
      simp only [Reps] at r
      simp only [patGs]
      exact ⟨r, k σ rs fun _ _ => rfl⟩
    | cons _ _ => simp [patBs] at hb
  | p :: ps, ds, vs, δ, δ2, σ, Q, hb, r, rs, k => by
    cases ds with
    | nil => simp [patBs] at hb
    | cons d ds =>
      simp only [patBs] at hb
      cases e1 : patB p d δ with
      | none => rw [e1] at hb; cases hb
      | some δ1 =>
        rw [e1] at hb
        simp only [Reps] at r
        obtain ⟨x, z, e, r1, r2⟩ := r
        simp only [patGs]
        refine ⟨x, z, e, pat_ok p d x δ δ1 σ _ e1 r1 rs fun σ1 rs1 w1 => ?_⟩
        refine pats_ok ps ds z δ1 δ2 σ1 Q hb r2 rs1 fun σ2 rs2 w2 => k σ2 rs2 fun vs hv => ?_
        rw [w2 vs (fun i hi => hv i (by simp [patVs, hi])), w1 vs (fun i hi => hv i (by simp [patVs, hi]))]
theorem pats_len : ∀ (ps : List Pat) (ds : List D) (δ δ2 : DSt), patBs ps ds δ = some δ2 → ds.length = ps.length
  | [], ds, δ, δ2, hb => by
    cases ds with
    | nil => rfl
    | cons _ _ => simp [patBs] at hb
  | p :: ps, ds, δ, δ2, hb => by
    cases ds with
    | nil => simp [patBs] at hb
    | cons d ds =>
      simp only [patBs] at hb
      cases e1 : patB p d δ with
      | none => rw [e1] at hb; cases hb
      | some δ1 =>
        rw [e1] at hb
        simp [pats_len ps ds δ1 δ2 hb]
end
end
/-- a hidden list is seen -/
theorem RelH.reveal {c : Cn} {h : DHp} {H : Hp} {p : Addr} {vs : List V} {ds : List D} (rh : RelH c H h) (e : H p = some (.lst vs)) (r : Reps c.K H ds vs) : RelH c H (put h p (.lst ds)) := by
  refine ⟨fun a o ea => ?_, rh.tabs⟩
  by_cases q : a = p
  · subst q
    rw [put_same] at ea
    cases ea
    exact ⟨vs, e, r⟩
  · rw [put_ne q] at ea
    exact rh.at_ a o ea
/-- a hidden list is written -/
theorem RelH.hidWrote {c : Cn} {h : DHp} {H : Hp} {p : Addr} {vs ws : List V} (rh : RelH c H h) (e : H p = some (.lst vs)) (n : h p = none) : RelH c (upd H p (.lst ws)) h ∧ Keeps H (upd H p (.lst ws)) ∧ ∀ a o, a ≠ p → H a = some o → upd H p (.lst ws) a = some o := by
  have ne_ : ∀ b v, H b = some v → (∀ xs, v ≠ .lst xs) → b ≠ p := fun b v q z y => by subst y; rw [e] at q; cases q; exact z _ rfl
  have k : Keeps H (upd H p (.lst ws)) := ⟨fun b xs q => by rw [upd_ne (ne_ b _ q fun _ z => by cases z)]; exact q, fun b ob z q => by rw [upd_ne (ne_ b _ q fun _ z => by cases z)]; exact q⟩
  refine ⟨⟨fun a o ea => ?_, fun q hq => ?_⟩, k, fun a o na ea => by rw [upd_ne na]; exact ea⟩
  · have na : a ≠ p := fun z => by subst z; rw [n] at ea; cases ea
    exact (rh.at_ a o ea).keep k (upd_ne na)
  · obtain ⟨ps, t1, t2, t3⟩ := rh.tabs q hq
    refine ⟨ps, by rw [upd_ne (ne_ _ _ t1 fun _ z => by cases z)]; exact t1, t2, fun pos cv hc => ?_⟩
    obtain ⟨b, e1, e2⟩ := t3 pos cv hc
    exact ⟨b, e1, by rw [upd_ne fun y => by subst y; rw [e] at e2; exact noCode_lst _ _ (Option.some.inj e2)]; exact e2⟩

/-- nothing raised leaves a comprehension -/
abbrev WF : WX := fun _ _ _ _ => False
abbrev nox : DX := fun _ _ => False
theorem takesF {X : Cx} : Takes X WF := takes_none5
structure DTs (X : Cx) (T : Tb) (ifs : List Expr) (m : MT) : Prop where
  t : PTs X ifs (upT (cn X T) WF m)
def dYes : MT := fun _ h Q _ => Q true h
theorem pts_imp {X : Cx} {ifs : List Expr} {t u : TT} (h : PTs X ifs t) (i : ∀ σ H Q, u σ H Q → t σ H Q) : PTs X ifs u := ⟨fun pins s σ H Q I q => h.run pins s σ H Q I (i σ H Q q)⟩
theorem dts_nil {X : Cx} {T : Tb} : DTs X T [] dYes := ⟨by
  refine pts_imp pts_nil ?_
  rintro σ H Q ⟨δ, h, Q', E', rs, rh, q, k, kx⟩
  exact k true H h Ext.refl rh q⟩
theorem dts_one {X : Cx} {T : Tb} {e : Expr} {m : MT} (h : DT X T WF e m) : DTs X T [e] m := ⟨pts_one h⟩

/-- the turns of a comprehension over the items ds -/
def LcB (p : Pat) (tt : MT) (me : ME) (vs : List Nat) (δ : DSt) (Q : DK) (ds : List D) (ok : DHp → Prop) (h1 : DHp) : Prop := ∃ V : Nat → List D → DHp → Prop, V 0 [] h1 ∧ ∀ i acc h, V i acc h → ok h ∧
  (i = ds.length → ∀ q, h q = none → Q (.ref q) (put h q (.lst acc))) ∧
  ∀ d, ds[i]? = some d → ∃ δ2, patB p d (dwipe δ vs) = some δ2 ∧ tt δ2 h (fun b h3 => (b = true → me δ2 h3 (fun y h4 => acc.length < sizeLine ∧ V (i + 1) (acc ++ [y]) h4) nox) ∧
    (b = false → V (i + 1) acc h3)) nox
def dLc (mi : MI) (p : Pat) (tt : MT) (me : ME) (vs : List Nat) : ME := fun δ h Q E => mi δ h (fun ds ok h1 => LcB p tt me vs δ Q ds ok h1) E
/-- items that leave the heap as it is -/
theorem lcB_map {p : Pat} {me : ME} {vs : List Nat} {δ : DSt} {Q : DK} {ds : List D} {ok : DHp → Prop} {h : DHp} (f : D → D) (hok : ok h) (hz : ds.length ≤ sizeLine)
    (he : ∀ d ∈ ds, ∃ δ2, patB p d (dwipe δ vs) = some δ2 ∧ ∀ K : DK, K (f d) h → me δ2 h K nox) (q : ∀ r, h r = none → Q (.ref r) (put h r (.lst (ds.map f)))) : LcB p dYes me vs δ Q ds ok h := by
  refine ⟨fun i acc h' => h' = h ∧ i ≤ ds.length ∧ acc = (ds.take i).map f, ⟨rfl, Nat.zero_le _, rfl⟩, ?_⟩
  rintro i acc h' ⟨rfl, hi, rfl⟩
  refine ⟨hok, fun e r n => ?_, fun d hd => ?_⟩
  · subst e
    rw [List.take_length]
    exact q r n
  · obtain ⟨hlt, hd'⟩ := List.getElem?_eq_some_iff.mp hd
    obtain ⟨δ2, e1, e2⟩ := he d (List.mem_of_getElem? hd)
    refine ⟨δ2, e1, fun _ => e2 _ ⟨?_, rfl, hlt, ?_⟩, fun z => by cases z⟩
    · rw [List.length_map, List.length_take]; omega
    · rw [← hd', List.take_succ_eq_append_getElem hlt, List.map_append]
      rfl
/-- .. where some are left out -/
theorem lcB_filter {p : Pat} {tt : MT} {me : ME} {vs : List Nat} {δ : DSt} {Q : DK} {ds : List D} {ok : DHp → Prop} {h : DHp} (g : D → Bool) (f : D → D) (hok : ok h) (hz : ds.length ≤ sizeLine)
    (he : ∀ d ∈ ds, ∃ δ2, patB p d (dwipe δ vs) = some δ2 ∧ (∀ (K : Bool → DHp → Prop), K (g d) h → tt δ2 h K nox) ∧ (g d = true → ∀ K : DK, K (f d) h → me δ2 h K nox)) (q : ∀ r, h r = none → Q (.ref r) (put h r (.lst ((ds.filter g).map f)))) : LcB p tt me vs δ Q ds ok h := by
  refine ⟨fun i acc h' => h' = h ∧ i ≤ ds.length ∧ acc = ((ds.take i).filter g).map f, ⟨rfl, Nat.zero_le _, rfl⟩, ?_⟩
  rintro i acc h' ⟨rfl, hi, rfl⟩
  refine ⟨hok, fun e r n => ?_, fun d hd => ?_⟩
  · subst e
    rw [List.take_length]
    exact q r n
  · obtain ⟨hlt, hd'⟩ := List.getElem?_eq_some_iff.mp hd
    obtain ⟨δ2, e1, e2, e3⟩ := he d (List.mem_of_getElem? hd)
    refine ⟨δ2, e1, e2 _ ⟨fun z => e3 z _ ⟨?_, rfl, hlt, ?_⟩, fun z => ⟨rfl, hlt, ?_⟩⟩⟩
    · rw [List.length_map]
      have := List.length_filter_le g (ds.take i)
      rw [List.length_take] at this
      omega
    · rw [← hd', List.take_succ_eq_append_getElem hlt, List.filter_append, List.map_append]
      rw [← hd'] at z
      simp [z]
    · rw [List.take_succ_eq_append_getElem hlt, List.filter_append, List.map_append]
      rw [← hd'] at z
      simp [z]
section
variable {X : Cx} {T : Tb} {W : WX} {elt tg iter : Expr} {ifs : List Expr} {scope : Scope} {own : List (Str × Nat)} {pos : Pos} {mi : MI} {p : Pat} {tt : MT} {me : ME}
theorem up_lc (hv : ∀ i ∈ patV p, i ∈ own.map (·.2)) : ∀ σ H Q, up (cn X T) W (dLc mi p tt me (own.map (·.2))) σ H Q →
    tLc (upI (cn X T) W mi) (patG X.K p) (upT (cn X T) WF tt) (up (cn X T) WF me) (own.map (·.2)) σ H Q := by
  rintro σ H Q ⟨δ, h, Q', E', rs, rh, q, k, kx⟩
  refine ⟨δ, h, _, _, rs, rh, q, fun J ds ok H1 h1 x1 rh1 io q1 L nL => ?_, kx⟩
  obtain ⟨V, v0, turn⟩ := q1
  obtain ⟨rh1', x1'⟩ := rh1.hid (u := .lst []) nL
  have nL1 : h1 L = none := rh1.fresh nL
  refine ⟨fun i mm H' => mm = ds.length - i ∧ i ≤ ds.length ∧ ∃ acc ws h', (∀ a o, a ≠ L → h1 a = none → H1 a = some o → (∀ ps, o ≠ .tbl ps) → H' a = some o ∧ h' a = none) ∧ Keeps H1 H' ∧ RelH (cn X T) H' h' ∧ h' L = none ∧ H' L = some (.lst ws) ∧ Reps X.K H' acc ws ∧ V i acc h',
    ⟨ds.length, rfl, Nat.zero_le _, [], [], h1, fun a o na n e nt => ⟨by rw [upd_ne na]; exact e, n⟩, keeps_new nL, rh1', nL1, upd_same, Reps.nil, v0⟩, ?_⟩
  rintro i mm H2 ⟨em, hi, acc, ws, h2, x2, k2, rh2, n2, e2, r2, v2⟩
  obtain ⟨ok2, fin, step⟩ := turn i acc h2 v2
  by_cases hlt : i < ds.length
  · refine .inr ⟨io.go i H2 h2 k2 rh2 ok2 hlt, fun H' => ∃ acc ws h', (∀ a o, a ≠ L → h1 a = none → H1 a = some o → (∀ ps, o ≠ .tbl ps) → H' a = some o ∧ h' a = none) ∧ Keeps H1 H' ∧ RelH (cn X T) H' h' ∧ h' L = none ∧ H' L = some (.lst ws) ∧ Reps X.K H' acc ws ∧ V (i + 1) acc h',
      fun H' ⟨acc, ws, h', z⟩ => ⟨ds.length - (i + 1), by omega, rfl, hlt, acc, ws, h', z⟩, fun x H3 y => ?_⟩
    have hd : ds[i]? = some ds[i] := List.getElem?_eq_getElem hlt
    obtain ⟨r3, rh3, x3⟩ := io.yld i H2 x H3 h2 _ k2 rh2 ok2 hd y
    obtain ⟨δ2, hp, q3⟩ := step _ hd
    have kH : Keeps H H3 := by
      have a := x1.keeps rh
      have b := x3.keeps rh2
      exact ⟨fun c xs e => b.1 _ _ (k2.1 _ _ (a.1 _ _ e)), fun c o z e => b.2 _ _ _ (k2.2 _ _ _ (a.2 _ _ _ e))⟩
    refine pat_ok (c := cn X T) p _ x _ δ2 _ _ hp r3 ((rs.keep kH).wipe _) fun σ2 rs2 w2 => ⟨?_, ?_⟩
    · rw [w2 _ hv]
      have ww : ∀ (l vs : List Nat), (∀ i ∈ l, i ∈ vs) → L2.wipe (L2.wipe σ l) vs = L2.wipe σ vs := by
        intro l
        induction l with
        | nil => intro vs _; rfl
        | cons a l ih =>
          intro vs hl
          show L2.wipe ((L2.wipe σ l).set a none) vs = _
          rw [wipe_set _ _ vs (hl a (by simp)), ih vs fun i hi => hl i (by simp [hi])]
      exact ww _ _ fun i hi => hi
    · -- a frame that holds the list
      have e3 : H3 L = some (.lst ws) := x3.same n2 e2 fun _ z => by cases z
      have r3' : Reps X.K H3 acc ws := Reps.keep (x3.keeps rh2) _ _ r2
      refine ⟨δ2, h2, _, nox, rs2, rh3, q3, fun b H4 h4 x4 rh4 q4 => ?_, fun _ _ _ _ _ z => z⟩
      have e4 : H4 L = some (.lst ws) := x4.same n2 e3 fun _ z => by cases z
      have n4 : h4 L = none := (x4 L _ n2 e3 (fun _ z => by cases z)).2
      have x24 := x3.trans x4
      have thr : ∀ {H' : Hp} {h' : DHp}, Ext h2 h' H2 H' → ∀ a o, a ≠ L → h1 a = none → H1 a = some o → (∀ ps, o ≠ .tbl ps) → H' a = some o ∧ h' a = none := fun {H' h'} xx a o na n e nt => by
        obtain ⟨e1, m1⟩ := x2 a o na n e nt
        exact xx a o m1 e1 nt
      have kpt : ∀ {H' : Hp} {h' : DHp}, Ext h2 h' H2 H' → Keeps H1 H' := fun {H' h'} xx => by
        have b := xx.keeps rh2
        exact ⟨fun c xs e => b.1 _ _ (k2.1 _ _ e), fun c o z e => b.2 _ _ _ (k2.2 _ _ _ e)⟩
      cases b with
      | false => exact ⟨acc, ws, h4, thr x24, kpt x24, rh4, n4, e4, Reps.keep (x4.keeps rh3) _ _ r3', q4.2 rfl⟩
      | true =>
        refine ⟨δ2, h4, _, nox, rs2.keep (x4.keeps rh3), rh4, q4.1 rfl, fun v d H5 h5 x5 r5 rh5 q5 => ?_, fun _ _ _ _ _ z => z⟩
        have e5 : H5 L = some (.lst ws) := x5.same n4 e4 fun _ z => by cases z
        have n5 : h5 L = none := (x5 L _ n4 e4 (fun _ z => by cases z)).2
        have x25 := x24.trans x5
        have r5' : Reps X.K H5 acc ws := Reps.keep (x5.keeps rh4) _ _ (Reps.keep (x4.keeps rh3) _ _ r3')
        obtain ⟨rh6, k6, o6⟩ := rh5.hidWrote (ws := ws ++ [v]) e5 n5
        refine ⟨ws, e5, by rw [r5'.length]; exact q5.1, acc ++ [d], ws ++ [v], h5, fun a o na n e nt => ?_, ?_, rh6, n5, upd_same, Reps.keep k6 _ _ (r5'.append (Reps.one r5)), q5.2⟩
        · obtain ⟨e1, m1⟩ := thr x25 a o na n e nt
          exact ⟨o6 a o na e1, m1⟩
        · have b := kpt x25
          exact ⟨fun c xs e => k6.1 _ _ (b.1 _ _ e), fun c o z e => k6.2 _ _ _ (b.2 _ _ _ e)⟩
  · have hi3 : i = ds.length := by omega
    subst hi3
    refine .inl ⟨io.stop H2 h2 k2 rh2 ok2, ?_⟩
    have rh3 := rh2.reveal e2 r2
    refine k _ _ H2 (put h2 L (.lst acc)) (fun a o n e nt => ?_) mk_ref rh3 (fin rfl L n2)
    obtain ⟨e1, m1⟩ := x1 a o n e nt
    have na : a ≠ L := fun z => by subst z; rw [nL] at e1; cases e1
    obtain ⟨e2', m2⟩ := x2 a o na m1 e1 nt
    exact ⟨e2', by rw [put_ne na]; exact m2⟩
theorem de_lc (hc : X.calm = true) (hN : X.N.Nodup) (hi : DI X T W tg iter mi) (ok : BlkOk X.N X.env.scope scope own) (hv : ∀ i ∈ patV p, i ∈ own.map (·.2))
    (hg : ∀ (s : Shared) (H : Hp) (C : Addr) (cl : List (Str × Addr)) (fp : List Addr), PG (X.blk s H scope (compEnvC scope cl C X.env) fp) tg (patG X.K p))
    (ht : ∀ (s : Shared) (H : Hp) (C : Addr) (cl : List (Str × Addr)) (fp : List Addr), DTs (X.blk s H scope (compEnvC scope cl C X.env) fp) T ifs tt)
    (he : ∀ (s : Shared) (H : Hp) (C : Addr) (cl : List (Str × Addr)) (fp : List Addr), DE (X.blk s H scope (compEnvC scope cl C X.env) fp) T WF elt me) (hs : ∀ x, foldedSetIterable iter X.env x = pure x := by intro _; rfl) :
    DE X T W (.ListComp elt [⟨tg, iter, ifs, 0⟩] scope pos) (dLc mi p tt me (own.map (·.2))) :=
  pe_imp (pe_lc (X := X) (wi := upI (cn X T) W mi) (g := patG X.K p) (tt := upT (cn X T) WF tt) (te := up (cn X T) WF me) hc hN hi ok hg (fun s H C cl fp => (ht s H C cl fp).t) he hs) (up_lc hv)
theorem ds_setLc {i : Nat} {y : Str} {py spos : Pos} (hc : X.calm = true) (hN : X.N.Nodup) (hy : X.N[i]? = some y) (hyl : X.env.scope.names.lookup y = some .local)
    (hsw : swapsWith (.ListComp elt [⟨tg, iter, ifs, 0⟩] scope pos) (some (.Name y py)) spos.line X.env = pure true) (hi : DI X T W tg iter mi) (ok : BlkOk X.N X.env.scope scope own) (hv : ∀ i ∈ patV p, i ∈ own.map (·.2))
    (hg : ∀ (s : Shared) (H : Hp) (C : Addr) (cl : List (Str × Addr)) (fp : List Addr), PG (X.blk s H scope (compEnvC scope cl C X.env) fp) tg (patG X.K p))
    (ht : ∀ (s : Shared) (H : Hp) (C : Addr) (cl : List (Str × Addr)) (fp : List Addr), DTs (X.blk s H scope (compEnvC scope cl C X.env) fp) T ifs tt)
    (he : ∀ (s : Shared) (H : Hp) (C : Addr) (cl : List (Str × Addr)) (fp : List Addr), DE (X.blk s H scope (compEnvC scope cl C X.env) fp) T WF elt me) (hs : ∀ x, foldedSetIterable iter X.env x = pure x := by intro _; rfl) :
    DS X T W (.Assign [.Name y py] (.ListComp elt [⟨tg, iter, ifs, 0⟩] scope pos) spos) (dAsg (dLc mi p tt me (own.map (·.2))) (dName i)) := by
  have zz := ps_setLc (X := X) (i := i) (y := y) (py := py) (elt := elt) (tg := tg) (iter := iter) (ifs := ifs) (scope := scope) (own := own) (pos := pos) (spos := spos) (wi := upI (cn X T) W mi) (g := patG X.K p) (tt := upT (cn X T) WF tt) (te := up (cn X T) WF me) hc hN hy hyl hsw hi ok hg (fun s H C cl fp => (ht s H C cl fp).t) he hs
  refine ps_imp zz ?_
  rintro Z σ H ⟨δ, h, DD, rs, rh, q, k⟩
  refine up_lc (W := W) hv σ H _ ⟨δ, h, _, _, rs, rh, q, fun v d H1 h1 x1 r1 rh1 q1 => ?_, k.ex.expr rs rh⟩
  exact k.nx _ _ H1 h1 x1 ((rs.keep (x1.keeps rh)).set i r1) rh1 q1
end
end Tw
/-! Rules over data: built-in functions, methods, subscripts. -/
namespace Tw
open PySem PySem.Spec PyProof.Rows L2
/-- a call by data -/
abbrev RC := List D → DHp → DK → Prop
def upC (c : Cn) (rd : RC) : List V → Hp → VK → Prop := fun xs H Q => ∃ ds h Q', Reps c.K H ds xs ∧ RelH c H h ∧ rd ds h Q' ∧ Bk c h H Q' Q
abbrev CD (X : Cx) (T : Tb) (f : Value) (rd : RC) : Prop := CallR X f (upC (cn X T) rd)
def dCB (rd : RC) (ms : MA) : ME := fun δ h Q E => ms δ h (fun ds h1 => rd ds h1 Q) E
section
variable {X : Cx} {T : Tb} {W : WX} {e : Expr} {es : List Expr} {ms : MA} {m : ME} {rd : RC} {x : Str} {p pos : Pos} {id ty : String}
theorem up_cb : ∀ σ H Q, up (cn X T) W (dCB rd ms) σ H Q → tCB (upC (cn X T) rd) (upA (cn X T) W ms) σ H Q := by
  rintro σ H Q ⟨δ, h, Q', E', rs, rh, q, k, kx⟩
  exact ⟨δ, h, _, _, rs, rh, q, fun vs ds H1 h1 x1 r1 rh1 q1 => ⟨ds, h1, Q', r1, rh1, q1, k.after x1⟩, kx⟩
theorem de_callB (hc : CD X T (.builtin id) rd) (hg : Gl X x) (hm : X.mg x = none) (hv : bootBuiltins x = some (.builtin id)) (ha : DA X T W (e :: es) ms) (hn : x ≠ "__name__" := by decide) (hdb : (x == ("__debug__" : Str)) = false := by decide)
    (he : starEach (e :: es) X.env = (false, eval e X.env) :: starEach es X.env := by rfl) (hpl : (backTo pos (starEach es X.env)).any (·.1) = false := by rfl) : DE X T W (.Call (.Name x p) (e :: es) [] pos) (dCB rd ms) :=
  pe_imp (pe_callB hc hg hm hv ha hn hdb he hpl) up_cb
theorem de_callTy (hc : CD X T (.type ty) rd) (hg : Gl X x) (hm : X.mg x = none) (hv : bootBuiltins x = some (.type ty)) (ha : DA X T W (e :: es) ms) (hn : x ≠ "__name__" := by decide) (hdb : (x == ("__debug__" : Str)) = false := by decide)
    (he : starEach (e :: es) X.env = (false, eval e X.env) :: starEach es X.env := by rfl) (hpl : (backTo pos (starEach es X.env)).any (·.1) = false := by rfl) : DE X T W (.Call (.Name x p) (e :: es) [] pos) (dCB rd ms) :=
  pe_imp (pe_callTy hc hg hm hv ha hn hdb he hpl) up_cb

/-! methods of built-in types -/
abbrev RM := D → List D → DHp → DK → Prop
def upM (c : Cn) (rd : RM) : V → List V → Hp → VK → Prop := fun x xs H Q => ∃ d ds h Q', Rep c.K H d x ∧ Reps c.K H ds xs ∧ RelH c H h ∧ rd d ds h Q' ∧ Bk c h H Q' Q
abbrev MD (X : Cx) (T : Tb) (id : String) (rd : RM) : Prop := MtR X id (upM (cn X T) rd)
/-- of that type -/
def tyD : String → D → DHp → Prop := fun ty d h => match d with
  | .str _ => ty = "str"
  | .ref a => match h a with
    | some (.lst _) => ty = "list"
    | some (.dct _) => ty = "dict"
    | _ => False
  | _ => False
theorem tyD_ok {c : Cn} {h : DHp} {H : Hp} {d : D} {v : V} (r : Rep c.K H d v) (rh : RelH c H h) (t : tyD ty d h) : tyV c.K ty v H := by
  cases d with
  | str x => have e := rel_str r; subst e; simp only [tyD] at t; subst t; exact rfl
  | ref a =>
    have e := rel_ref r
    subst e
    cases q : h a with
    | none => simp only [tyD, q] at t
    | some o =>
      have z := rh.at_ _ _ q
      cases o with
      | lst ds => simp only [tyD, q] at t; obtain ⟨xs, e1, _⟩ := z; exact .inl ⟨t, xs, .inl (.inl e1)⟩
      | dct kvs => simp only [tyD, q] at t; obtain ⟨xs, e1, _⟩ := z; exact .inr (.inr (.inl ⟨t, .inl ⟨xs, e1⟩⟩))
      | _ => simp only [tyD, q] at t
  | _ => simp only [tyD] at t
def dMt0 (ty : String) (rd : RM) (m : ME) : ME := fun δ h Q E => m δ h (fun d h1 => tyD ty d h1 ∧ rd d [] h1 Q) E
def dMt (ty : String) (rd : RM) (m : ME) (ms : MA) : ME := fun δ h Q E => m δ h (fun d h1 => tyD ty d h1 ∧ ms δ h1 (fun ds h2 => rd d ds h2 Q) E) E
variable {o : Expr} {name : Str} {apos cpos : Pos}
theorem de_mt0 {rm : RM} (pa : PlainAttrs ty) (slot : Slot ty name id) (hty : typeOf (.builtin id) = pure (.type "method_descriptor")) (hm : MD X T id rm) (ho : DE X T W o m)
    (hbase : attributeBase o name X.env (eval o X.env) = eval o X.env := by rfl) (hline : (apos.endLine == cpos.line) = true := by rfl) : DE X T W (.Call (.Attribute o name apos) [] [] cpos) (dMt0 ty rm m) := by
  refine pe_imp (pe_bm0 pa slot hty hm ho hbase hline) ?_
  rintro σ H Q ⟨δ, h, Q', E', rs, rh, q, k, kx⟩
  exact ⟨δ, h, _, _, rs, rh, q, fun v d H1 h1 x1 r1 rh1 q1 => ⟨tyD_ok r1 rh1 q1.1, d, [], h1, Q', r1, Reps.nil, rh1, q1.2, k.after x1⟩, kx⟩
theorem de_mt {rm : RM} (pa : PlainAttrs ty) (slot : Slot ty name id) (hty : typeOf (.builtin id) = pure (.type "method_descriptor")) (hm : MD X T id rm) (ho : DE X T W o m) (ha : DA X T W (e :: es) ms)
    (hbase : attributeBase o name X.env (eval o X.env) = eval o X.env := by rfl)
    (hfew : ((backTo cpos (starEach (e :: es) X.env)).all (fun x => !x.1) && (backToKw cpos (keywordEach [] X.env)).all (fun x => x.1.isSome)
      && decide ((e :: es).length + ([] : List Keyword).length + (if ([] : List Keyword).isEmpty then 0 else 1) < 30)) = true := by rfl)
    (hline : (apos.endLine == cpos.line) = true := by rfl) (hs : starEach (e :: es) X.env = (false, eval e X.env) :: starEach es X.env := by rfl) (hplain : (backTo cpos (starEach es X.env)).any (·.1) = false := by rfl) :
    DE X T W (.Call (.Attribute o name apos) (e :: es) [] cpos) (dMt ty rm m ms) := by
  refine pe_imp (pe_bm pa slot hty hm ho ha hbase hfew hline hs hplain) ?_
  rintro σ H Q ⟨δ, h, Q', E', rs, rh, q, k, kx⟩
  refine ⟨δ, h, _, _, rs, rh, q, fun v d H1 h1 x1 r1 rh1 q1 => ⟨tyD_ok r1 rh1 q1.1, δ, h1, _, E', rs.keep (x1.keeps rh), rh1, q1.2, fun vs ds H2 h2 x2 r2 rh2 q2 => ?_, kx.after x1⟩, kx⟩
  exact ⟨d, ds, h2, Q', Rep.keep (x2.keeps rh1) _ _ r1, r2, rh2, q2, k.after (x1.trans x2)⟩
end
theorem reps1 {K : PySem.W.Frag} {H : Hp} {d : D} {vs : List V} (r : Reps K H [d] vs) : ∃ v, vs = [v] ∧ Rep K H d v := by
  simp only [Reps] at r
  obtain ⟨x, _, e, r1, e2⟩ := r
  exact ⟨x, by rw [e, e2], r1⟩
theorem reps2 {K : PySem.W.Frag} {H : Hp} {d d' : D} {vs : List V} (r : Reps K H [d, d'] vs) : ∃ v v', vs = [v, v'] ∧ Rep K H d v ∧ Rep K H d' v' := by
  simp only [Reps] at r
  obtain ⟨x, _, e, r1, y, _, e2, r2, e3⟩ := r
  exact ⟨x, y, by rw [e, e2, e3], r1, r2⟩
theorem rep_scr {K : PySem.W.Frag} {H : Hp} {ns : List Int} {v : V} (r : Rep K H (.scr ns) v) : ∃ a, v = .ref a ∧ SqL K H a (ns.map V.int) := by
  simp only [Rep] at r
  obtain ⟨a, e, ⟨o, q⟩ | ⟨o, its, n, q1, q2, q3, q4, q5, q6⟩⟩ := r
  · exact ⟨a, e, .inl (.inr ⟨o, q⟩)⟩
  · exact ⟨a, e, .inr ⟨o, its, n, q1, q2, q3, q4, q5, q6⟩⟩
theorem sql_lst {c : Cn} {h : DHp} {H : Hp} {a : Addr} {ds : List D} (rh : RelH c H h) (e : h a = some (.lst ds)) : ∃ xs, SqL c.K H a xs ∧ Reps c.K H ds xs ∧ H a = some (.lst xs) :=
  let ⟨xs, e1, e2⟩ := rh.at_ _ _ e
  ⟨xs, .inl (.inl e1), e2, e1⟩
/-- what a list or a tuple holds -/
def itemsD (d : D) (h : DHp) : Option (List D) := match d with
  | .tup ds => some ds
  | .scr ns => some (ns.map D.int)
  | .ref a => match h a with
    | some (.lst ds) => some ds
    | _ => none
  | _ => none
theorem reps_ints {K : PySem.W.Frag} {H : Hp} : ∀ ns : List Int, Reps K H (ns.map D.int) (ns.map V.int)
  | [] => Reps.nil
  | n :: ns => by rw [List.map_cons, List.map_cons]; exact Reps.cons mk_int (reps_ints ns)
theorem ints_reps {K : PySem.W.Frag} {H : Hp} : ∀ {ns : List Int} {vs : List V}, Reps K H (ns.map D.int) vs → vs = ns.map V.int
  | [], _, r => by simpa only [List.map_nil, Reps] using r
  | n :: ns, _, r => by
    simp only [List.map_cons, Reps] at r
    obtain ⟨x, z, e, r1, r2⟩ := r
    rw [e, rel_int r1, ints_reps r2]
    rfl
theorem bls_reps {K : PySem.W.Frag} {H : Hp} : ∀ {ns : List Bool} {vs : List V}, Reps K H (ns.map D.bl) vs → vs = ns.map V.bl
  | [], _, r => by simpa only [List.map_nil, Reps] using r
  | n :: ns, _, r => by
    simp only [List.map_cons, Reps] at r
    obtain ⟨x, z, e, r1, r2⟩ := r
    rw [e, rel_bl r1, bls_reps r2]
    rfl
theorem strs_reps {K : PySem.W.Frag} {H : Hp} : ∀ {ns : List (List Nat)} {vs : List V}, Reps K H (ns.map D.str) vs → vs = (ns.map tx).map V.str
  | [], _, r => by simpa only [List.map_nil, Reps] using r
  | n :: ns, _, r => by
    simp only [List.map_cons, Reps] at r
    obtain ⟨x, z, e, r1, r2⟩ := r
    rw [e, rel_str r1, strs_reps r2]
    rfl
theorem items_rep {c : Cn} {h : DHp} {H : Hp} {d : D} {v : V} {ds : List D} (r : Rep c.K H d v) (rh : RelH c H h) (e : itemsD d h = some ds) : ∃ a xs, v = .ref a ∧ (SqL c.K H a xs ∨ SqT c.K H a xs) ∧ Reps c.K H ds xs := by
  cases d with
  | tup es =>
    simp only [itemsD, Option.some.injEq] at e
    subst e
    obtain ⟨a, xs, e, t, q⟩ := rel_tup r
    exact ⟨a, xs, e, .inr t.sqt, q⟩
  | scr ns =>
    simp only [itemsD, Option.some.injEq] at e
    subst e
    obtain ⟨a, e, t⟩ := rep_scr r
    exact ⟨a, _, e, .inl t, reps_ints ns⟩
  | ref a =>
    simp only [itemsD] at e
    cases q : h a with
    | none => simp [q] at e
    | some o =>
      cases o with
      | lst es =>
        simp only [q, Option.some.injEq] at e
        subst e
        obtain ⟨xs, e1, e2, _⟩ := sql_lst rh q
        exact ⟨a, xs, rel_ref r, .inl e1, e2⟩
      | _ => simp [q] at e
  | _ => simp [itemsD] at e
/-- of a list alone -/
def listD (d : D) (h : DHp) : Option (List D) := match d with
  | .ref a => match h a with
    | some (.lst ds) => some ds
    | _ => none
  | _ => none
theorem list_rep {c : Cn} {h : DHp} {H : Hp} {d : D} {v : V} {ds : List D} (r : Rep c.K H d v) (rh : RelH c H h) (e : listD d h = some ds) : ∃ a xs, d = .ref a ∧ v = .ref a ∧ h a = some (.lst ds) ∧ H a = some (.lst xs) ∧ Reps c.K H ds xs := by
  cases d with
  | ref a =>
    simp only [listD] at e
    cases q : h a with
    | none => simp [q] at e
    | some o =>
      cases o with
      | lst es =>
        simp only [q, Option.some.injEq] at e
        subst e
        obtain ⟨xs, e1, e2, e3⟩ := sql_lst rh q
        exact ⟨a, xs, rfl, rel_ref r, q, e3, e2⟩
      | _ => simp [q] at e
  | _ => simp [listD] at e

section
variable {X : Cx} {T : Tb}
/-! ### built-in functions -/
def bLen : RC := fun ds h Q => match ds with
  | [.str x] => x.length ≤ sizeLine ∧ Q (.int x.length) h
  | [d] => ∃ xs, itemsD d h = some xs ∧ Q (.int xs.length) h
  | _ => False
theorem cd_len : CD X T (.builtin "len") bLen := by
  intro pins s σ H vs us Q I rv hh
  obtain ⟨ds, h, Q', r, rh, q, k⟩ := hh
  have seq : ∀ d, ds = [d] → (∃ xs, itemsD d h = some xs ∧ Q' (.int xs.length) h) → wpAny (model X.prog X.w) X.A (call (.builtin "len") us) (EP X pins σ Q) X.xe s := by
    rintro d e ⟨xs, ei, q2⟩
    subst e
    obtain ⟨v, e, r1⟩ := reps1 r
    subst e
    obtain ⟨a, ys, e, sq, r2⟩ := items_rep r1 rh ei
    subst e
    refine call_len pins s σ H _ us Q I rv ⟨_, ys.length, rfl, ?_, by rw [r2.length]; exact k.here mk_int rh q2⟩
    rcases sq with sq | sq
    · exact .inl ⟨ys, sq, rfl⟩
    · exact .inr ⟨ys, sq, rfl⟩
  match ds, q, r, seq with
  | [.str x], q, r, _ =>
    obtain ⟨v, e, r1⟩ := reps1 r
    subst e
    exact call_len pins s σ H _ us Q I rv ⟨_, x.length, rfl, by rw [rel_str r1]; exact ⟨by rw [tx_len]; exact q.1, (tx_len x).symm⟩, k.here mk_int rh q.2⟩
  | [.non], q, _, seq => exact seq _ rfl q
  | [.bl _], q, _, seq => exact seq _ rfl q
  | [.int _], q, _, seq => exact seq _ rfl q
  | [.ty _], q, _, seq => exact seq _ rfl q
  | [.ref _], q, _, seq => exact seq _ rfl q
  | [.tup _], q, _, seq => exact seq _ rfl q
  | [.scr _], q, _, seq => exact seq _ rfl q
  | [.fn _], q, _, seq => exact seq _ rfl q
/-- what a value's type is, as far as isinstance asks -/
def tyOfD (d : D) (h : DHp) : Option String := match d with
  | .non => some "NoneType"
  | .bl _ => some "bool"
  | .int _ => some "int"
  | .str _ => some "str"
  | .tup _ => some "tuple"
  | .scr _ => some "list"
  | .ref a => match h a with
    | some (.lst _) => some "list"
    | some (.dct _) => some "dict"
    | _ => none
  | .ty _ => none
  | .fn _ => none
theorem tyX_of {c : Cn} {h : DHp} {H : Hp} {d : D} {v : V} {n : String} (r : Rep c.K H d v) (rh : RelH c H h) (e : tyOfD d h = some n) : TyX c.K H v (.type n) := by
  cases d with
  | non => rw [rel_non r]; cases e; exact .base .non
  | bl b => rw [rel_bl r]; cases e; exact .base (.bl b)
  | int b => rw [rel_int r]; cases e; exact .base (.int b)
  | str b => rw [rel_str r]; cases e; exact .base (.str _)
  | tup ds =>
    cases e
    obtain ⟨a, xs, e, t, _⟩ := rel_tup r
    subst e
    rcases t with t | ⟨o, its, n, q1, q2, _⟩
    · exact .base (.tup t)
    · exact .kTuple q1 q2
  | scr ns =>
    cases e
    simp only [Rep] at r
    obtain ⟨a, e, ⟨o, q⟩ | ⟨o, its, n, q1, q2, q3, q4, q5, q6⟩⟩ := r
    · subst e; exact .base (.frz q)
    · subst e; exact .kList q1 q2
  | ref a =>
    rw [rel_ref r]
    simp only [tyOfD] at e
    cases q : h a with
    | none => simp [q] at e
    | some o =>
      have z := rh.at_ _ _ q
      cases o with
      | lst es => simp only [q, Option.some.injEq] at e; subst e; obtain ⟨xs, e1, _⟩ := z; exact .base (.lst e1)
      | dct es => simp only [q, Option.some.injEq] at e; subst e; obtain ⟨xs, e1, _⟩ := z; exact .base (.dK e1)
      | _ => simp [q] at e
  | ty n => cases e
  | fn n => cases e
/-- isinstance of a value of one built-in type: bool is an int -/
def isTy (n m : String) : Bool := n == m || (n == "bool" && m == "int")
def bIsi : RC := fun ds h Q => match ds with
  | [d, .ty m] => ∃ n, tyOfD d h = some n ∧ m ∈ ["int", "bool", "str", "tuple", "list"] ∧ Q (.bl (isTy n m)) h
  | _ => False
theorem tyOfD_in {d : D} {h : DHp} {n : String} (e : tyOfD d h = some n) : n ∈ ["NoneType", "bool", "int", "str", "tuple", "list", "dict"] := by
  cases d with
  | ref a =>
    simp only [tyOfD] at e
    cases q : h a with
    | none => simp [q] at e
    | some o => cases o <;> simp [q] at e <;> subst e <;> simp
  | ty n => cases e
  | _ => cases e <;> simp
theorem kit_all : ∀ (K : PySem.W.Frag) (n m : String), n ∈ ["NoneType", "bool", "int", "str", "tuple", "list", "dict"] → m ∈ ["int", "bool", "str", "tuple", "list"] → PySem.W.kitOne K (.type n) (.type m) = some (isTy n m) := by
  intro K n m hn hm
  simp only [List.mem_cons, List.mem_nil_iff, or_false] at hn hm
  rcases hn with rfl | rfl | rfl | rfl | rfl | rfl | rfl <;> rcases hm with rfl | rfl | rfl | rfl | rfl <;> first | rfl | with_unfolding_all rfl
theorem cd_isi : CD X T (.builtin "isinstance") bIsi := by
  intro pins s σ H vs us Q I rv hh
  obtain ⟨ds, h, Q', r, rh, q, k⟩ := hh
  match ds, q, r with
  | [d, .ty m], ⟨n, e, hm, q⟩, r =>
    obtain ⟨v, v', ev, r1, r2⟩ := reps2 r
    subst ev
    simp only [Rep] at r2
    subst r2
    exact call_isi pins s σ H _ us Q I rv ⟨v, _, _, _, _, rfl, .ty m, tyX_of r1 rh e, kit_all _ n m (tyOfD_in e) hm, k.here mk_bl rh q⟩
def bAll (g : List Bool → Bool) : RC := fun ds h Q => match ds with
  | [d] => ∃ bs : List Bool, listD d h = some (bs.map D.bl) ∧ Q (.bl (g bs)) h
  | _ => False
theorem cd_all (hc : X.calm = true) : CD X T (.builtin "all") (bAll fun bs => bs.all id) := by
  intro pins s σ H vs us Q I rv hh
  obtain ⟨ds, h, Q', r, rh, q, k⟩ := hh
  match ds, q, r with
  | [d], ⟨bs, e, q⟩, r =>
    obtain ⟨v, ev, r1⟩ := reps1 r
    subst ev
    obtain ⟨a, xs, e1, e2, e3, e4, e5⟩ := list_rep r1 rh e
    rw [bls_reps e5] at e4
    subst e2
    exact cr_all hc pins s σ H _ us Q I rv ⟨a, bs, rfl, .inl (.inl e4), k.here mk_bl rh q⟩
theorem cd_any (hc : X.calm = true) : CD X T (.builtin "any") (bAll fun bs => bs.any id) := by
  intro pins s σ H vs us Q I rv hh
  obtain ⟨ds, h, Q', r, rh, q, k⟩ := hh
  match ds, q, r with
  | [d], ⟨bs, e, q⟩, r =>
    obtain ⟨v, ev, r1⟩ := reps1 r
    subst ev
    obtain ⟨a, xs, e1, e2, e3, e4, e5⟩ := list_rep r1 rh e
    rw [bls_reps e5] at e4
    subst e2
    exact cr_any hc pins s σ H _ us Q I rv ⟨a, bs, rfl, .inl (.inl e4), k.here mk_bl rh q⟩
/-- least and greatest of a list of ints -/
def minI : List Int → Int
  | [] => 0
  | [x] => x
  | x :: xs => min x (minI xs)
def maxI : List Int → Int
  | [] => 0
  | [x] => x
  | x :: xs => max x (maxI xs)
theorem minI_le : ∀ (xs : List Int) (y : Int), y ∈ xs → minI xs ≤ y
  | [x], y, h => by simp at h; subst h; exact Int.le_refl _
  | x :: z :: xs, y, h => by
    have ih := minI_le (z :: xs)
    unfold minI
    rcases List.mem_cons.mp h with e | e
    · subst e; exact Int.min_le_left _ _
    · exact Int.le_trans (Int.min_le_right _ _) (ih y e)
theorem minI_mem : ∀ (xs : List Int), 0 < xs.length → minI xs ∈ xs
  | [x], _ => by simp [minI]
  | x :: z :: xs, _ => by
    have ih := minI_mem (z :: xs) (by simp)
    unfold minI
    rcases Int.le_total x (minI (z :: xs)) with e | e
    · rw [Int.min_eq_left e]; simp
    · rw [Int.min_eq_right e]; exact List.mem_cons_of_mem _ ih
theorem maxI_le : ∀ (xs : List Int) (y : Int), y ∈ xs → y ≤ maxI xs
  | [x], y, h => by simp at h; subst h; exact Int.le_refl _
  | x :: z :: xs, y, h => by
    have ih := maxI_le (z :: xs)
    unfold maxI
    rcases List.mem_cons.mp h with e | e
    · subst e; exact Int.le_max_left _ _
    · exact Int.le_trans (ih y e) (Int.le_max_right _ _)
theorem maxI_mem : ∀ (xs : List Int), 0 < xs.length → maxI xs ∈ xs
  | [x], _ => by simp [maxI]
  | x :: z :: xs, _ => by
    have ih := maxI_mem (z :: xs) (by simp)
    unfold maxI
    rcases Int.le_total x (maxI (z :: xs)) with e | e
    · rw [Int.max_eq_right e]; exact List.mem_cons_of_mem _ ih
    · rw [Int.max_eq_left e]; simp
def bInts (g : List Int → Int) (ok : List Int → Prop) : RC := fun ds h Q => match ds with
  | [d] => ∃ ns : List Int, listD d h = some (ns.map D.int) ∧ ok ns ∧ Q (.int (g ns)) h
  | _ => False
def bMin : RC := bInts minI fun ns => 0 < ns.length
def bMax : RC := bInts maxI fun ns => 0 < ns.length
def bSum : RC := bInts List.sum fun _ => True
theorem cd_min (hc : X.calm = true) : CD X T (.builtin "min") bMin := by
  intro pins s σ H vs us Q I rv hh
  obtain ⟨ds, h, Q', r, rh, q, k⟩ := hh
  match ds, q, r with
  | [d], ⟨ns, e, hz, q⟩, r =>
    obtain ⟨v, ev, r1⟩ := reps1 r
    subst ev
    obtain ⟨a, xs, e1, e2, e3, e4, e5⟩ := list_rep r1 rh e
    rw [ints_reps e5] at e4
    subst e2
    refine cr_min hc pins s σ H _ us Q I rv ⟨a, ns, rfl, .inl (.inl e4), hz, fun m hm hl => ?_⟩
    have : m = minI ns := Int.le_antisymm (hl _ (minI_mem ns hz)) (minI_le ns m hm)
    subst this
    exact k.here mk_int rh q
theorem cd_max (hc : X.calm = true) : CD X T (.builtin "max") bMax := by
  intro pins s σ H vs us Q I rv hh
  obtain ⟨ds, h, Q', r, rh, q, k⟩ := hh
  match ds, q, r with
  | [d], ⟨ns, e, hz, q⟩, r =>
    obtain ⟨v, ev, r1⟩ := reps1 r
    subst ev
    obtain ⟨a, xs, e1, e2, e3, e4, e5⟩ := list_rep r1 rh e
    rw [ints_reps e5] at e4
    subst e2
    refine cr_max hc pins s σ H _ us Q I rv ⟨a, ns, rfl, .inl (.inl e4), hz, fun m hm hl => ?_⟩
    have : m = maxI ns := Int.le_antisymm (maxI_le ns m hm) (hl _ (maxI_mem ns hz))
    subst this
    exact k.here mk_int rh q
theorem cd_sum (hc : X.calm = true) : CD X T (.builtin "sum") bSum := by
  intro pins s σ H vs us Q I rv hh
  obtain ⟨ds, h, Q', r, rh, q, k⟩ := hh
  match ds, q, r with
  | [d], ⟨ns, e, hz, q⟩, r =>
    obtain ⟨v, ev, r1⟩ := reps1 r
    subst ev
    obtain ⟨a, xs, e1, e2, e3, e4, e5⟩ := list_rep r1 rh e
    rw [ints_reps e5] at e4
    subst e2
    exact cr_sum hc pins s σ H _ us Q I rv ⟨a, ns, rfl, .inl (.inl e4), k.here mk_int rh q⟩
def bInt : RC := fun ds h Q => match ds with
  | [.int i] => Q (.int i) h
  | [.bl b] => Q (.int (if b then 1 else 0)) h
  | _ => False
theorem cd_int : CD X T (.type "int") bInt := by
  intro pins s σ H vs us Q I rv hh
  obtain ⟨ds, h, Q', r, rh, q, k⟩ := hh
  match ds, q, r with
  | [.int i], q, r =>
    obtain ⟨v, ev, r1⟩ := reps1 r
    subst ev
    exact call_int1 pins s σ H _ us Q I rv (.inl ⟨i, by rw [rel_int r1], k.here mk_int rh q⟩)
  | [.bl b], q, r =>
    obtain ⟨v, ev, r1⟩ := reps1 r
    subst ev
    exact call_int1 pins s σ H _ us Q I rv (.inr ⟨b, by rw [rel_bl r1], k.here mk_int rh q⟩)
/-- list(xs), list(text) -/
def bList : RC := fun ds h Q => match ds with
  | [.str x] => x.length ≤ sizeLine ∧ ∀ p, h p = none → Q (.ref p) (put h p (.lst (x.map fun c => .str [c])))
  | [d] => ∃ xs, itemsD d h = some xs ∧ ∀ p, h p = none → Q (.ref p) (put h p (.lst xs))
  | _ => False
theorem reps_signs {K : PySem.W.Frag} {H : Hp} : ∀ (x : List Nat) (us : List Value), us.length = x.length → (∀ (j : Nat) (v : Value), us[j]? = some v → ∃ (c : Nat) (t : Tok), x[j]? = some c ∧ v = Value.str ⟨#[c]⟩ t) →
    Reps K H (x.map fun c => D.str [c]) (x.map fun c => V.str ⟨#[c]⟩) ∧ Vals (x.map fun c => V.str ⟨#[c]⟩) us
  | [], [], _, _ => ⟨Reps.nil, .nil⟩
  | [], _ :: _, h, _ => by simp at h
  | _ :: _, [], h, _ => by simp at h
  | c :: x, u :: us, h, f => by
    obtain ⟨h1, h2⟩ := reps_signs (K := K) (H := H) x us (by simpa using h) fun j v e => by
      obtain ⟨c, t, e1, e2⟩ := f (j + 1) v (by simpa using e)
      exact ⟨c, t, by simpa using e1, e2⟩
    obtain ⟨c', t, e1, e2⟩ := f 0 u (by simp)
    simp at e1
    subst e1 e2
    rw [List.map_cons, List.map_cons]
    exact ⟨Reps.cons mk_str h1, .cons ⟨t, rfl⟩ h2⟩
theorem cd_list (hc : X.calm = true) : CD X T (.type "list") bList := by
  intro pins s σ H vs us Q I rv hh
  obtain ⟨ds, h, Q', r, rh, q, k⟩ := hh
  have seq : ∀ d, ds = [d] → (∃ xs, itemsD d h = some xs ∧ ∀ p, h p = none → Q' (.ref p) (put h p (.lst xs))) → wpAny (model X.prog X.w) X.A (call (.type "list") us) (EP X pins σ Q) X.xe s := by
    rintro d e ⟨xs, ei, q2⟩
    subst e
    obtain ⟨v, e, r1⟩ := reps1 r
    subst e
    obtain ⟨a, ys, e, sq, r2⟩ := items_rep r1 rh ei
    subst e
    refine call_list_of pins s σ H _ us Q I rv ⟨a, ys, rfl, sq, fun l n => ?_⟩
    obtain ⟨rh2, x2⟩ := RelH.newList rh n r2
    exact k _ _ _ _ x2 mk_ref rh2 (q2 l (rh.fresh n))
  match ds, q, r, seq with
  | [.str x], q, r, _ =>
    obtain ⟨v, e, r1⟩ := reps1 r
    subst e
    have e := rel_str r1
    subst e
    obtain ⟨u, eu, t, eu2⟩ := vals1 rv
    subst eu eu2
    refine PySem.call_list_str (I.ok.hd hc) (tx x) t (hn := by show (tx x).length ≤ sizeLine; rw [tx_len]; exact q.1) fun h' tk acc' c' hk hS hacc => ?_
    have hz : (tx x).cps.size = x.length := by show x.toArray.size = x.length; simp
    obtain ⟨rr, vv⟩ := reps_signs (K := X.K) (H := H) x acc'.toList (by rw [Array.length_toList, hacc.1, hz]) fun j v e => by
      obtain ⟨c, t, e1, e2⟩ := hacc.2 j v (by rw [← Array.getElem?_toList]; exact e)
      exact ⟨c, t, by simpa using e1, e2⟩
    have n : H s.heap.objs.size = none := I.hok.fresh (Nat.le_refl _)
    obtain ⟨rh2, x2⟩ := RelH.newList rh n rr
    exact ⟨.ref s.heap.objs.size, _, I.laid (o := .lst (x.map fun c => V.str ⟨#[c]⟩)) hk (Nat.le_refl _) ⟨by rw [List.length_map]; exact q.1, acc'.toList, c', vv, by rw [Array.toArray_toList]; exact hS⟩, rfl, k _ _ _ _ x2 mk_ref rh2 (q.2 _ (rh.fresh n))⟩
  | [.non], q, _, seq => exact seq _ rfl q
  | [.bl _], q, _, seq => exact seq _ rfl q
  | [.int _], q, _, seq => exact seq _ rfl q
  | [.ty _], q, _, seq => exact seq _ rfl q
  | [.ref _], q, _, seq => exact seq _ rfl q
  | [.tup _], q, _, seq => exact seq _ rfl q
  | [.scr _], q, _, seq => exact seq _ rfl q
  | [.fn _], q, _, seq => exact seq _ rfl q
/-- tuple(list), tuple(tuple) -/
def bTup : RC := fun ds h Q => match ds with
  | [d] => ∃ xs, itemsD d h = some xs ∧ Q (.tup xs) h
  | _ => False
theorem cd_tup : CD X T (.type "tuple") bTup := by
  intro pins s σ H vs us Q I rv hh
  obtain ⟨ds, h, Q', r, rh, q, k⟩ := hh
  match ds, q, r with
  | [d], ⟨xs, ei, q⟩, r =>
    obtain ⟨v, e, r1⟩ := reps1 r
    subst e
    cases d with
    | tup es =>
      simp only [itemsD, Option.some.injEq] at ei
      subst ei
      obtain ⟨a, ys, e, t, r2⟩ := rel_tup r1
      subst e
      exact call_tuple_of pins s σ H _ us Q I rv ⟨a, ys, rfl, .inr ⟨t.sqt, k.here r1 rh q⟩⟩
    | scr ns =>
      simp only [itemsD, Option.some.injEq] at ei
      subst ei
      obtain ⟨a, e, t⟩ := rep_scr r1
      subst e
      refine call_tuple_of pins s σ H _ us Q I rv ⟨a, _, rfl, .inl ⟨t, fun l n => ?_⟩⟩
      obtain ⟨rh2, x2⟩ := rh.hid (u := .tup (ns.map V.int)) n
      exact k _ _ _ _ x2 (mk_tup (.inl upd_same) (reps_ints ns)) rh2 q
    | ref a =>
      obtain ⟨a', ys, e1, e2, e3, e4, r2⟩ := list_rep r1 rh (show listD (.ref a) h = some xs from ei)
      subst e2
      refine call_tuple_of pins s σ H _ us Q I rv ⟨a', ys, rfl, .inl ⟨.inl (.inl e4), fun l n => ?_⟩⟩
      obtain ⟨rh2, x2⟩ := rh.hid (u := .tup ys) n
      exact k _ _ _ _ x2 (mk_tup (.inl upd_same) (Reps.keep (keeps_new n) _ _ r2)) rh2 q
    | _ => simp [itemsD] at ei
end
end Tw
/-! Rules over data: methods, more operations, subscripts. -/
namespace Tw
open PySem PySem.Spec PyProof.Rows L2
/-- a list that is seen is written -/
theorem RelH.reList {c : Cn} {h : DHp} {H : Hp} {a : Addr} {ds es : List D} {vs ws : List V} (rh : RelH c H h) (e : h a = some (.lst ds)) (eH : H a = some (.lst vs)) (r : Reps c.K H es ws) : RelH c (upd H a (.lst ws)) (put h a (.lst es)) ∧ Ext h (put h a (.lst es)) H (upd H a (.lst ws)) :=
  rh.wrote e eH noCode_lst fun k => ⟨ws, upd_same, Reps.keep k _ _ r⟩
section
variable {X : Cx} {T : Tb}
def mAppend : RM := fun d ds h Q => match d, ds with
  | .ref a, [y] => ∃ xs, h a = some (.lst xs) ∧ xs.length < sizeLine ∧ Q .non (put h a (.lst (xs ++ [y])))
  | _, _ => False
theorem md_append : MD X T "list.append" mAppend := by
  intro pins s σ H x vs v us Q I rx rv hh
  obtain ⟨d, ds, h, Q', rd, r, rh, q, k⟩ := hh
  match d, ds, q, rd, r with
  | .ref a, [y], ⟨xs, e, hz, q⟩, rd, r =>
    obtain ⟨w, ew, r1⟩ := reps1 r
    subst ew
    obtain ⟨ys, _, e2, e3⟩ := sql_lst rh e
    obtain ⟨rh2, x2⟩ := rh.reList e e3 (e2.append (Reps.one r1))
    exact mt_append pins s σ H x _ v us Q I rx rv ⟨a, ys, w, rel_ref rd, rfl, e3, by rw [e2.length]; exact hz, k _ _ _ _ x2 mk_non rh2 q⟩
def mExtend : RM := fun d ds h Q => match d, ds with
  | .ref a, [.ref b] => ∃ xs ys, h a = some (.lst xs) ∧ h b = some (.lst ys) ∧ xs.length + ys.length ≤ sizeLine ∧ Q .non (put h a (.lst (xs ++ ys)))
  | _, _ => False
theorem md_extend : MD X T "list.extend" mExtend := by
  intro pins s σ H x vs v us Q I rx rv hh
  obtain ⟨d, ds, h, Q', rd, r, rh, q, k⟩ := hh
  match d, ds, q, rd, r with
  | .ref a, [.ref b], ⟨xs, ys, e, eb, hz, q⟩, rd, r =>
    obtain ⟨w, ew, r1⟩ := reps1 r
    subst ew
    obtain ⟨vx, _, e2, e3⟩ := sql_lst rh e
    obtain ⟨vy, _, e4, e5⟩ := sql_lst rh eb
    obtain ⟨rh2, x2⟩ := rh.reList e e3 (e2.append e4)
    exact mt_extend pins s σ H x _ v us Q I rx rv ⟨a, b, vx, vy, rel_ref rd, by rw [rel_ref r1], e3, e5, by rw [e2.length, e4.length]; exact hz, k _ _ _ _ x2 mk_non rh2 q⟩
/-- pop(): the last one -/
def mPop : RM := fun d ds h Q => match d, ds with
  | .ref a, [] => ∃ xs y, h a = some (.lst (xs ++ [y])) ∧ Q y (put h a (.lst xs))
  | _, _ => False
theorem md_pop : MD X T "list.pop" mPop := by
  intro pins s σ H x vs v us Q I rx rv hh
  obtain ⟨d, ds, h, Q', rd, r, rh, q, k⟩ := hh
  match d, ds, q, rd, r with
  | .ref a, [], ⟨xs, y, e, q⟩, rd, r =>
    simp only [Reps] at r
    subst r
    obtain ⟨vx, _, e2, e3⟩ := sql_lst rh e
    have hl := e2.length
    rw [List.length_append, List.length_singleton] at hl
    obtain ⟨w, ew, rw'⟩ := e2.get (i := xs.length) (d := y) (by simp)
    have e4 := e2.take xs.length
    rw [List.take_left] at e4
    obtain ⟨rh2, x2⟩ := rh.reList e e3 e4
    have hd : vx.dropLast = vx.take xs.length := by rw [List.dropLast_eq_take, hl]; rfl
    refine mt_pop pins s σ H x _ v us Q I rx rv ⟨a, vx, w, rel_ref rd, rfl, e3, by rw [hl]; exact ew, ?_⟩
    rw [hd]
    exact k _ _ _ _ x2 (Rep.keep (x2.keeps rh) _ _ rw') rh2 q
/-- sep.join(texts) -/
def joinD (sep : List Nat) : List (List Nat) → List Nat
  | [] => []
  | [x] => x
  | x :: xs => x ++ sep ++ joinD sep xs
theorem join_tx0 (sep : List Nat) : ∀ ys : List (List Nat), Str.join (tx sep) (ys.map tx) = tx (joinD sep ys)
  | [] => rfl
  | [x] => rfl
  | x :: y :: ys => by
    have ih := join_tx0 sep (y :: ys)
    show tx x ++ tx sep ++ Str.join (tx sep) ((y :: ys).map tx) = tx (x ++ sep ++ joinD sep (y :: ys))
    rw [ih, tx_app, tx_app]
theorem join_tx (sep : List Nat) (ys : List (List Nat)) : Txt.join (tx sep) (ys.map tx) = tx (joinD sep ys) := (TL.join_eq _ _).trans (join_tx0 sep ys)
theorem joinD_nil : ∀ ys : List (List Nat), joinD [] ys = ys.flatten
  | [] => rfl
  | [x] => by simp [joinD]
  | x :: y :: ys => by
    have ih := joinD_nil (y :: ys)
    simp only [joinD, List.append_nil, List.flatten_cons] at ih ⊢
    rw [ih]
def mJoin : RM := fun d ds h Q => match d, ds with
  | .str sep, [l] => ∃ ys : List (List Nat), itemsD l h = some (ys.map D.str) ∧ (ys.map List.length).sum + ys.length * sep.length ≤ 16777216 ∧ Q (.str (joinD sep ys)) h
  | _, _ => False
theorem md_join : MD X T "str.join" mJoin := by
  intro pins s σ H x vs v us Q I rx rv hh
  obtain ⟨d, ds, h, Q', rd, r, rh, q, k⟩ := hh
  match d, ds, q, rd, r with
  | .str sep, [l], ⟨ys, e, hz, q⟩, rd, r =>
    obtain ⟨w, ew, r1⟩ := reps1 r
    subst ew
    obtain ⟨a, xs, e1, sq, e2⟩ := items_rep r1 rh e
    subst e1
    rw [strs_reps e2] at sq
    refine mt_join pins s σ H x _ v us Q I rx rv ⟨tx sep, a, ys.map tx, rel_str rd, rfl, sq, ?_, by rw [join_tx]; exact k.here mk_str rh q⟩
    rw [List.map_map, List.length_map, tx_len]
    have : (fun x => x.length) ∘ tx = List.length := by funext z; exact tx_len z
    rw [this]
    exact hz

/-! ### * -/
theorem foldl_app : ∀ (n : Nat) (x acc : List Nat), (List.replicate n x.toArray).foldl (fun a b => a ++ b) acc.toArray = (acc ++ (List.replicate n x).flatten).toArray
  | 0, x, acc => by simp
  | n + 1, x, acc => by
    rw [List.replicate_succ, List.foldl_cons, List.append_toArray, foldl_app n x (acc ++ x), List.replicate_succ, List.flatten_cons, List.append_assoc]
def repD {α : Type} (n : Nat) (x : List α) : List α := (List.replicate n x).flatten
theorem repD_len {α : Type} (n : Nat) (x : List α) : (repD n x).length = n * x.length := by
  unfold repD
  induction n with
  | zero => simp
  | succ n ih => rw [List.replicate_succ, List.flatten_cons, List.length_append, ih, Nat.succ_mul, Nat.add_comm]
def dMul (x y : D) (h : DHp) (Q : DK) : Prop := match x, y with
  | .int i, .int j => ((-(2 ^ 64) < i ∧ i < 2 ^ 64) ∨ (-(2 ^ 64) < j ∧ j < 2 ^ 64)) ∧ Q (.int (i * j)) h
  | .str z, .int k => (k < 2 ^ 62 ∧ -(2 ^ 62) < k ∧ z.length * k.toNat ≤ sizeLine) ∧ Q (.str (repD k.toNat z)) h
  | .ref a, .int k => ∃ xs, h a = some (.lst xs) ∧ (-(2 ^ 63) ≤ k ∧ k < 2 ^ 63 ∧ xs.length * k.toNat ≤ sizeLine) ∧ ∀ p, h p = none → Q (.ref p) (put h p (.lst (repD k.toNat xs)))
  | _, _ => False
theorem Reps.rep {K : PySem.W.Frag} {H : Hp} {ds : List D} {vs : List V} (r : Reps K H ds vs) : ∀ n, Reps K H (List.replicate n ds).flatten (List.replicate n vs).flatten
  | 0 => Reps.nil
  | n + 1 => by
    rw [List.replicate_succ, List.replicate_succ, List.flatten_cons, List.flatten_cons]
    exact r.append (Reps.rep r n)
theorem or_mul : OpD X T (binaryOp .Mult) dMul := by
  intro pins s σ H x y v u Q I rx ry hh
  obtain ⟨dx, dy, h, Q', r1, r2, rh, hq, k⟩ := hh
  cases dx <;> cases dy <;> first
    | exact False.elim hq
    | skip
  case int.int i j => exact op_mul pins s σ H x y v u Q I rx ry ⟨i, j, rel_int r1, rel_int r2, hq.1, k.here mk_int rh hq.2⟩
  case ref.int a n =>
    obtain ⟨xs, e, hz, q⟩ := hq
    obtain ⟨vx, _, e2, e3⟩ := sql_lst rh e
    refine op_rep pins s σ H x y v u Q I rx ry ⟨a, n, vx, rel_ref r1, rel_int r2, e3, hz.1, hz.2.1, by rw [e2.length]; exact hz.2.2, fun p np => ?_⟩
    obtain ⟨rh2, x2⟩ := RelH.newList rh np (e2.rep n.toNat)
    exact k _ _ _ _ x2 mk_ref rh2 (q p (rh.fresh np))
  case str.int z n =>
    obtain ⟨⟨h1, h2, h3⟩, q⟩ := hq
    have ex := rel_str r1
    have ey := rel_int r2
    subst ex ey
    obtain ⟨t, rfl⟩ := rx
    obtain ⟨t', rfl⟩ := ry
    have hs := sizeLine_eq
    have hlen : (tx z).length = z.length := tx_len z
    have fin : ∀ (s' : Shared) (t : Tok) (w : List Nat), Inv X pins σ H s' → w = repD n.toNat z → EP X pins σ Q (.str (tx w) t) s' := fun s' t w I' e => by
      subst e
      exact ⟨.str _, H, I', ⟨t, rfl⟩, k.here mk_str rh q⟩
    refine PySem.P.mul_str (by rw [decide_eq_false (by omega), decide_eq_false (by omega)]; rfl) (fun h1 hb => ?_) (fun h1 hb => ?_) ?_
    · rw [hlen]
      have hn : 1 ≤ n := by omega
      have a1 : (z.length : Int) ≤ 2 ^ 30 := by
        have : z.length * 1 ≤ z.length * n.toNat := Nat.mul_le_mul_left _ (by omega)
        omega
      have a2 : n ≤ 2 ^ 30 ∨ z.length = 0 := by
        rcases Nat.eq_zero_or_pos z.length with e | e
        · exact .inr e
        · left
          have : 1 * n.toNat ≤ z.length * n.toNat := Nat.mul_le_mul_right _ e
          omega
      rcases a2 with a2 | a2
      · have : (2 : Int) ^ 30 ≤ (2 ^ 63 - 1) / n := by
          rw [Int.le_ediv_iff_mul_le (by omega)]
          have : (2 : Int) ^ 30 * n ≤ 2 ^ 30 * 2 ^ 30 := Int.mul_le_mul_of_nonneg_left a2 (by decide)
          omega
        omega
      · rw [hlen, a2] at hb
        simp at hb
    · rw [hlen]
      unfold Builtin.Str.tooLong
      simp only [decide_eq_false_iff_not]
      omega
    · by_cases hn : n < 1
      · rw [if_pos hn]
        refine ⟨by show (0 : Nat) ≤ sizeLine; omega, ?_⟩
        have e0 : n.toNat = 0 := by omega
        exact fin _ _ [] (I.tok _) (by unfold repD; rw [e0]; rfl)
      · rw [if_neg hn]
        by_cases h1' : (n == 1 || (tx z).length == 0) = true
        · rw [if_pos h1']
          refine fin _ _ z I ?_
          rw [Bool.or_eq_true, beq_iff_eq, beq_iff_eq, hlen] at h1'
          rcases h1' with e | e
          · subst e; unfold repD; simp
          · have : z = [] := List.length_eq_zero_iff.mp e
            subst this
            unfold repD; simp
        · rw [if_neg h1']
          have e : (List.replicate n.toNat (tx z).cps).foldl (fun a b => a ++ b) #[] = (repD n.toNat z).toArray := by
            have := foldl_app n.toNat z []
            simpa [repD] using this
          have e' : (⟨(List.replicate n.toNat (tx z).cps).foldl (fun a b => a ++ b) #[]⟩ : Str) = tx (repD n.toNat z) := by rw [e]
          show Made.post (Made.str ⟨(List.replicate n.toNat (tx z).cps).foldl (fun a b => a ++ b) #[]⟩) _ _
          rw [e']
          exact ⟨by rw [tx_len, repD_len, Nat.mul_comm]; exact h3, fin _ _ _ (I.tok _) rfl⟩
/-- -x -/
def dNeg (ma : ME) : ME := fun δ h Q E => ma δ h (fun x h1 => match x with | .int i => Q (.int (-i)) h1 | _ => False) E
theorem de_neg {W : WX} {a : Expr} {ma : ME} {pos : Pos} (ha : DE X T W a ma) : DE X T W (.UnaryOp .USub a pos) (dNeg ma) := by
  refine pe_imp (pe_un un_neg ha) ?_
  rintro σ H Q ⟨δ, h, Q', E', rs, rh, q, k, kx⟩
  refine ⟨δ, h, _, E', rs, rh, q, fun v d H1 h1 x1 r1 rh1 q1 => ?_, kx⟩
  cases d with
  | int i => exact ⟨i, rel_int r1, k _ _ _ _ x1 mk_int rh1 q1⟩
  | _ => exact False.elim q1

/-! ### chains of two comparisons -/
def dChain (rd rd' : D → D → DHp → DK → Prop) (ma mb mc : ME) : ME := fun δ h Q E => ma δ h (fun x h1 => mb δ h1 (fun y h2 => rd x y h2 fun z h3 => onB z fun b => (b = true → mc δ h3 (fun w h4 => rd' y w h4 Q) E) ∧ (b = false → Q (.bl false) h3)) E) E
theorem up_chain {W : WX} {a b c : Expr} {ma mb mc : ME} {rd rd' : D → D → DHp → DK → Prop} : ∀ σ H Q, up (cn X T) W (dChain rd rd' ma mb mc) σ H Q → tChain (upO (cn X T) rd) (upO (cn X T) rd') (up (cn X T) W ma) (up (cn X T) W mb) (up (cn X T) W mc) σ H Q := by
  rintro σ H Q ⟨δ, h, Q', E', rs, rh, hm, k, kx⟩
  refine ⟨δ, h, _, E', rs, rh, hm, fun x dx H1 h1 x1 r1 rh1 q1 => ?_, kx⟩
  refine ⟨δ, h1, _, E', rs.keep (x1.keeps rh), rh1, q1, fun y dy H2 h2 x2 r2 rh2 q2 => ?_, kx.after x1⟩
  refine ⟨dx, dy, h2, _, Rep.keep (x2.keeps rh1) _ _ r1, r2, rh2, q2, fun z dz H3 h3 x3 r3 rh3 q3 => ?_⟩
  have x13 := x1.trans (x2.trans x3)
  cases dz with
  | bl b =>
    refine ⟨b, rel_bl r3, ?_⟩
    cases b with
    | true =>
      rw [if_pos rfl]
      refine ⟨δ, h3, _, E', rs.keep (x13.keeps rh), rh3, q3.1 rfl, fun w' dw H4 h4 x4 r4 rh4 q4 => ?_, kx.after x13⟩
      exact ⟨dy, dw, h4, Q', Rep.keep (x4.keeps rh3) _ _ (Rep.keep (x3.keeps rh2) _ _ r2), r4, rh4, q4, k.after (x13.trans x4)⟩
    | false =>
      rw [if_neg Bool.false_ne_true]
      exact k _ _ _ _ x13 mk_bl rh3 (q3.2 rfl)
  | _ => exact False.elim q3
theorem de_chain {W : WX} {a b c : Expr} {ma mb mc : ME} {rd rd' : D → D → DHp → DK → Prop} {op op' : CmpOp} {pos : Pos} (ho : OpD X T (compareOp op) rd) (ho' : OpD X T (compareOp op') rd') (ha : DE X T W a ma) (hb : DE X T W b mb) (hc : DE X T W c mc)
    (hm : lastMarks [op, op'] [b, c] = false := by with_unfolding_all rfl) : DE X T W (.Compare a [op, op'] [b, c] pos) (dChain rd rd' ma mb mc) := pe_imp (pe_chain ho ho' ha hb hc hm) (up_chain (a := a) (b := b) (c := c))
theorem dt_chain {W : WX} {a b c : Expr} {ma mb mc : ME} {rd rd' : D → D → DHp → DK → Prop} {op op' : CmpOp} {pos : Pos} (ho : OpD X T (compareOp op) rd) (ho' : OpD X T (compareOp op') rd') (ha : DE X T W a ma) (hb : DE X T W b mb) (hc : DE X T W c mc)
    (hm : lastMarks [op, op'] [b, c] = false := by with_unfolding_all rfl) : DT X T W (.Compare a [op, op'] [b, c] pos) (dTest (dChain rd rd' ma mb mc)) := pt_imp (pt_chain ho ho' ha hb hc hm) (up_test (up_chain (a := a) (b := b) (c := c)))

/-! ### subscripts -/
theorem atI_map {α β : Type} (f : α → β) (xs : List α) (i : Int) : atI (xs.map f) i = (atI xs i).map f := by
  unfold atI
  rw [List.length_map]
  cases ixN xs.length i with
  | none => rfl
  | some j => simp
theorem Reps.at {K : PySem.W.Frag} {H : Hp} {ds : List D} {vs : List V} {i : Int} {d : D} (r : Reps K H ds vs) (e : atI ds i = some d) : ∃ v, atI vs i = some v ∧ Rep K H d v := by
  unfold atI at e ⊢
  rw [r.length]
  cases q : ixN ds.length i with
  | none => rw [q] at e; cases e
  | some j =>
    rw [q] at e
    exact r.get e
/-- xs[i], t[i], s[i] -/
def dIx (x y : D) (h : DHp) (Q : DK) : Prop := match x, y with
  | .str z, .int i => z.length ≤ sizeLine ∧ ∃ c, atI z i = some c ∧ Q (.str [c]) h
  | .tup xs, .int i => ∃ d, atI xs i = some d ∧ Q d h
  | .ref a, .int i => ∃ xs d, h a = some (.lst xs) ∧ atI xs i = some d ∧ Q d h
  | .scr ns, .int i => ∃ n, atI ns i = some n ∧ Q (.int n) h
  | _, _ => False
def IxD (X : Cx) (T : Tb) (rd : D → D → DHp → DK → Prop) : Prop := IxR X (upO (cn X T) rd)
theorem ix_d : IxD X T dIx := by
  intro value slice pins s σ H x y v u Q I rx ry hh hs
  obtain ⟨dx, dy, h, Q', r1, r2, rh, hq, k⟩ := hh
  cases dx <;> cases dy <;> first
    | exact False.elim hq
    | skip
  case str.int z i =>
    obtain ⟨hz, c, e, q⟩ := hq
    exact ix_str value slice pins s σ H x y v u Q I rx ry ⟨tx z, i, c, rel_str r1, rel_int r2, by rw [tx_len]; exact hz, by simpa using e, k.here (by simp only [Rep]) rh q⟩ hs
  case ref.int a i =>
    obtain ⟨xs, d, e1, e, q⟩ := hq
    obtain ⟨vx, sq, e2, e3⟩ := sql_lst rh e1
    obtain ⟨w, e4, rw'⟩ := e2.at e
    exact ix_list value slice pins s σ H x y v u Q I rx ry ⟨a, vx, i, w, rel_ref r1, rel_int r2, sq, e4, k.here rw' rh q⟩ hs
  case tup.int xs i =>
    obtain ⟨d, e, q⟩ := hq
    obtain ⟨a, vx, ea, t, e2⟩ := rel_tup r1
    obtain ⟨w, e4, rw'⟩ := e2.at e
    exact ix_tup value slice pins s σ H x y v u Q I rx ry ⟨a, vx, i, w, ea, rel_int r2, t.sqt, e4, k.here rw' rh q⟩ hs
  case scr.int ns i =>
    obtain ⟨n, e, q⟩ := hq
    obtain ⟨a, ea, sq⟩ := rep_scr r1
    exact ix_list value slice pins s σ H x y v u Q I rx ry ⟨a, _, i, .int n, ea, rel_int r2, sq, by rw [atI_map, e]; rfl, k.here mk_int rh q⟩ hs
theorem de_ix {W : WX} {a b : Expr} {ma mb : ME} {pos : Pos} {rd : D → D → DHp → DK → Prop} (hr : IxD X T rd) (ha : DE X T W a ma) (hb : DE X T W b mb) (hs : PlainIx b) : DE X T W (.Subscript a b pos) (dOp rd ma mb) := pe_imp (pe_ix hr ha hb hs) (up_op rfl)
/-- slices: the parts -/
abbrev MO := DSt → DHp → (Option Int → DHp → Prop) → DX → Prop
def upP (c : Cn) (W : WX) (m : MO) : TO := fun σ H Q => ∃ δ h Q' E', RelS c H δ σ ∧ RelH c H h ∧ m δ h Q' E' ∧ (∀ o H' h', Ext h h' H H' → RelH c H' h' → Q' o h' → Q o H') ∧ BkX c h H E' W σ
abbrev DO' (X : Cx) (T : Tb) (W : WX) (e : Option Expr) (m : MO) : Prop := PO X e (upP (cn X T) W m)
def dNoPart : MO := fun _ h Q _ => Q none h
def dPart (m : ME) : MO := fun δ h Q E => m δ h (fun d h1 => match d with | .int i => Q (some i) h1 | _ => False) E
theorem po_imp {e : Option Expr} {t u : TO} (h : PO X e t) (i : ∀ σ H Q, u σ H Q → t σ H Q) : PO X e u := ⟨fun pins s σ H Q I q => h.run pins s σ H Q I (i σ H Q q)⟩
theorem do_none {W : WX} : DO' X T W none dNoPart := by
  refine po_imp po_none ?_
  rintro σ H Q ⟨δ, h, Q', E', rs, rh, q, k, kx⟩
  exact k _ _ _ Ext.refl rh q
theorem do_some {W : WX} {e : Expr} {m : ME} (he : DE X T W e m) : DO' X T W (some e) (dPart m) := by
  refine po_imp (po_some he) ?_
  rintro σ H Q ⟨δ, h, Q', E', rs, rh, q, k, kx⟩
  refine ⟨δ, h, _, E', rs, rh, q, fun v d H1 h1 x1 r1 rh1 q1 => ?_, kx⟩
  cases d with
  | int i => exact ⟨i, rel_int r1, k _ _ _ x1 rh1 q1⟩
  | _ => exact False.elim q1
/-- xs[lo:hi] -/
def cutD {α : Type} (xs : List α) (lo hi : Option Int) : List α := (xs.drop (HT.sIx xs.length 0 lo)).take (HT.sIx xs.length xs.length hi - HT.sIx xs.length 0 lo)
def dCut (x : D) (lo hi : Option Int) (h : DHp) (Q : DK) : Prop := match x with
  | .str z => z.length ≤ sizeLine ∧ Q (.str (cutD z lo hi)) h
  | .tup xs => Q (.tup (cutD xs lo hi)) h
  | .ref a => ∃ xs, h a = some (.lst xs) ∧ ∀ p, h p = none → Q (.ref p) (put h p (.lst (cutD xs lo hi)))
  | .scr ns => ∀ p, h p = none → Q (.ref p) (put h p (.lst ((cutD ns lo hi).map D.int)))
  | _ => False
def upSl (c : Cn) : V → Option Int → Option Int → Hp → VK → Prop := fun x lo hi H Q => ∃ d h Q', Rep c.K H d x ∧ RelH c H h ∧ dCut d lo hi h Q' ∧ Bk c h H Q' Q
theorem cutD_map {α β : Type} (f : α → β) (xs : List α) (lo hi : Option Int) : cutD (xs.map f) lo hi = (cutD xs lo hi).map f := by
  unfold cutD
  rw [List.length_map, List.map_take, List.map_drop]
theorem cutV_D (xs : List V) (lo hi : Option Int) : cutV xs lo hi = cutD xs lo hi := rfl
theorem Reps.cut {K : PySem.W.Frag} {H : Hp} {ds : List D} {vs : List V} (r : Reps K H ds vs) (lo hi : Option Int) : Reps K H (cutD ds lo hi) (cutV vs lo hi) := by
  unfold cutD cutV
  rw [r.length]
  exact (r.drop _).take _
theorem cutS_D (z : List Nat) (lo hi : Option Int) : cutS (tx z) lo hi = tx (cutD z lo hi) := by
  unfold cutS cutD
  rw [tx_len]
theorem cutD_whole {α : Type} (xs : List α) {lo hi : Option Int} (h : HT.sIx xs.length 0 lo = 0 ∧ HT.sIx xs.length xs.length hi = xs.length) : cutD xs lo hi = xs := by
  unfold cutD
  rw [h.1, h.2]
  simp
theorem sl_d : SlR X (upSl (cn X T)) := by
  intro pins s σ H x v vl vu lo hi sl Q I rx hs pl pu hh
  obtain ⟨d, h, Q', r, rh, q, k⟩ := hh
  cases d with
  | str z => exact sl_str pins s σ H x v vl vu lo hi sl Q I rx hs pl pu ⟨tx z, rel_str r, by rw [tx_len]; exact q.1, by rw [cutS_D]; exact k.here mk_str rh q.2⟩
  | ref a =>
    obtain ⟨xs, e1, q⟩ := q
    obtain ⟨vx, sq, e2, e3⟩ := sql_lst rh e1
    refine sl_list pins s σ H x v vl vu lo hi sl Q I rx hs pl pu ⟨a, vx, rel_ref r, sq, fun p n => ?_⟩
    obtain ⟨rh2, x2⟩ := RelH.newList rh n (e2.cut lo hi)
    exact k _ _ _ _ x2 mk_ref rh2 (q p (rh.fresh n))
  | scr ns =>
    obtain ⟨a, ea, sq⟩ := rep_scr r
    refine sl_list pins s σ H x v vl vu lo hi sl Q I rx hs pl pu ⟨a, _, ea, sq, fun p n => ?_⟩
    have r2 : Reps X.K H ((cutD ns lo hi).map D.int) (cutV (ns.map V.int) lo hi) := by rw [cutV_D, cutD_map]; exact reps_ints _
    obtain ⟨rh2, x2⟩ := RelH.newList rh n r2
    exact k _ _ _ _ x2 mk_ref rh2 (q p (rh.fresh n))
  | tup xs =>
    obtain ⟨a, vx, ea, t, e2⟩ := rel_tup r
    have hl := e2.length
    refine sl_tupA pins s σ H x v vl vu lo hi sl Q I rx hs pl pu ⟨a, vx, ea, t.sqt, fun hw => ?_, fun hw p n => ?_⟩
    · rw [hl] at hw
      have q : Q' (.tup (cutD xs lo hi)) h := q
      rw [cutD_whole xs hw] at q
      exact k.here (mk_tup t e2) rh q
    · obtain ⟨rh2, x2⟩ := rh.hid (u := .tup (cutV vx lo hi)) n
      exact k _ _ _ _ x2 (mk_tup (.inl upd_same) (Reps.keep (keeps_new n) _ _ (e2.cut lo hi))) rh2 q
  | _ => exact False.elim q
def dSl (m : ME) (ml mh : MO) : ME := fun δ h Q E => m δ h (fun x h1 => ml δ h1 (fun l h2 => mh δ h2 (fun u h3 => dCut x l u h3 Q) E) E) E
theorem de_slice {W : WX} {e : Expr} {lo hi : Option Expr} {m : ME} {ml mh : MO} {pos p2 : Pos} (he : DE X T W e m) (hl : DO' X T W lo ml) (hu : DO' X T W hi mh) : DE X T W (.Subscript e (.Slice lo hi none p2) pos) (dSl m ml mh) := by
  refine pe_imp (pe_slice (sl_d (T := T)) he hl hu) ?_
  rintro σ H Q ⟨δ, h, Q', E', rs, rh, q, k, kx⟩
  refine ⟨δ, h, _, E', rs, rh, q, fun v d H1 h1 x1 r1 rh1 q1 => ?_, kx⟩
  refine ⟨δ, h1, _, E', rs.keep (x1.keeps rh), rh1, q1, fun l H2 h2 x2 rh2 q2 => ?_, kx.after x1⟩
  refine ⟨δ, h2, _, E', rs.keep ((x1.trans x2).keeps rh), rh2, q2, fun u H3 h3 x3 rh3 q3 => ?_, kx.after (x1.trans x2)⟩
  exact ⟨d, h3, Q', Rep.keep (x3.keeps rh2) _ _ (Rep.keep (x2.keeps rh1) _ _ r1), rh3, q3, k.after (x1.trans (x2.trans x3))⟩
/-! ### xs[i] = v -/
def upSet (c : Cn) (rd : D → D → D → DHp → (DHp → Prop) → Prop) : TSet := fun o i v H Q => ∃ dO dI dv h Q', Rep c.K H dO o ∧ Rep c.K H dI i ∧ Rep c.K H dv v ∧ RelH c H h ∧ rd dO dI dv h Q' ∧ ∀ H' h', Ext h h' H H' → RelH c H' h' → Q' h' → Q H'
abbrev SetD (X : Cx) (T : Tb) (rd : D → D → D → DHp → (DHp → Prop) → Prop) : Prop := PSet X (upSet (cn X T) rd)
def dSetL (o i v : D) (h : DHp) (Q : DHp → Prop) : Prop := match o, i with
  | .ref a, .int n => ∃ xs j, h a = some (.lst xs) ∧ ixN xs.length n = some j ∧ Q (put h a (.lst (xs.set j v)))
  | _, _ => False
theorem set_l : SetD X T dSetL := by
  intro pins s σ H o i v ov iv u Q I ro ri rv hh
  obtain ⟨dO, dI, dv, h, Q', r1, r2, r3, rh, q, k⟩ := hh
  match dO, dI, q, r1, r2 with
  | .ref a, .int n, ⟨xs, j, e, hj, q⟩, r1, r2 =>
    obtain ⟨vx, sq, e2, e3⟩ := sql_lst rh e
    obtain ⟨rh2, x2⟩ := rh.reList e e3 (Reps.set r3 j e2)
    exact set_list pins s σ H o i v ov iv u Q I ro ri rv ⟨a, vx, n, j, rel_ref r1, rel_int r2, e3, by rw [e2.length]; exact hj, k _ _ x2 rh2 q⟩
def dgSub (mo mi : ME) (rd : D → D → D → DHp → (DHp → Prop) → Prop) : D → DSt → DHp → (DSt → DHp → Prop) → DX → Prop := fun d δ h Q E => mo δ h (fun o h1 => mi δ h1 (fun i h2 => rd o i d h2 (Q δ)) E) E
def dSetI (mo mi me : ME) (rd : D → D → D → DHp → (DHp → Prop) → Prop) : MS := fun D δ h => me δ h (fun d h1 => dgSub mo mi rd d δ h1 D.nx (exE D.ex δ)) (exE D.ex δ)
theorem ds_setI {W : WX} {o i e : Expr} {mo mi me : ME} {rd : D → D → D → DHp → (DHp → Prop) → Prop} {p pos : Pos} (hr : SetD X T rd) (ho : DE X T W o mo) (hi : DE X T W i mi) (he : DE X T W e me)
    (ha : ∀ v, assign (.Subscript o i p) X.env v = (do
      let ov ← holding [v] (eval o X.env)
      let iv ← holding [v, ov] (eval i X.env)
      standAt p
      holding [v, ov, iv] (setItem ov iv v)
      release [v, ov, iv] []) := by intro _; rfl)
    (hs : swapsWithSole [.Subscript o i p] e pos.line X.env = pure false := by rfl) (hw : swappedStores [.Subscript o i p] e X.env = pure none := by rfl)
    (h1 : (assignEach [.Subscript o i p] X.env).map (·.2) = [assign (.Subscript o i p) X.env] := by rfl) : DS X T W (.Assign [.Subscript o i p] e pos) (dSetI mo mi me rd) := by
  refine ps_imp (ps_asg he (pg_sub ho hi hr ha) hs hw h1) ?_
  rintro Z σ H ⟨δ, h, DD, rs, rh, q, k⟩
  refine ⟨δ, h, _, _, rs, rh, q, fun v d H1 h1 x1 r1 rh1 q1 => ?_, k.ex.expr rs rh⟩
  have rs1 := rs.keep (x1.keeps rh)
  refine ⟨δ, h1, _, _, rs1, rh1, q1, fun ov dO H2 h2 x2 r2 rh2 q2 => ?_, (k.ex.after x1).expr rs1 rh1⟩
  have rs2 := rs1.keep (x2.keeps rh1)
  refine ⟨δ, h2, _, _, rs2, rh2, q2, fun iv dI H3 h3 x3 r3 rh3 q3 => ?_, (k.ex.after (x1.trans x2)).expr rs2 rh2⟩
  have rs3 := rs2.keep (x3.keeps rh2)
  refine ⟨dO, dI, d, h3, _, Rep.keep (x3.keeps rh2) _ _ r2, r3, Rep.keep (x3.keeps rh2) _ _ (Rep.keep (x2.keeps rh1) _ _ r1), rh3, q3, fun H' h' x' rh' q' => ?_⟩
  exact k.nx _ _ _ _ (x1.trans (x2.trans (x3.trans x'))) (rs3.keep (x'.keeps rh3)) rh' q'
end
end Tw
/-! A dict comprehension with a store of any kind. -/
namespace Tw
open PySem PySem.Spec PyProof.Rows L2
abbrev TSt := Addr → V → V → Hp → (Hp → Prop) → Prop
/-- o0: the new dict; st: d[y] = z of it -/
structure StoreOk (X : Cx) (o0 : Addr → HO) (st : TSt) : Prop where
  new : ∀ (H : Hp) (h : Heap), sysModules < h.objs.size → ObjOk X.prog X.w H (h.push { cls := .type "dict", data := .dict #[] }) h.objs.size (o0 h.objs.size)
  put : ∀ (Y : Cx), Y.prog = X.prog → Y.w = X.w → Y.K = X.K → Y.A = X.A → ∀ (pins : List (Addr × Obj)) (s : Shared) (σ : L2.St) (H : Hp) (p : Addr) (y z : V) (u r : Value) (N : Hp → Prop) (E : Value → Shared → Prop),
    Inv Y pins σ H s → RelV y u → RelV z r → st p y z H N → wpAny (model X.prog X.w) X.A (dictSet p u r) (fun _ s' => ∃ H', Inv Y pins σ H' s' ∧ N H') E s
abbrev BlkP (X : Cx) (scope : Scope) (f : Cx → Prop) : Prop := ∀ (s : Shared) (H : Hp) (C : Addr) (cl : List (Str × Addr)) (fp : List Addr), f (X.blk s H scope (compEnvC scope cl C X.env) fp)
section
variable {X : Cx}
def tDcG (o0 : Addr → HO) (st : TSt) (wi : TI) (g : TG) (tt : TT) (tk tv : TE) (vs : List Nat) : TE := fun σ H Q => wi σ H fun J H1 => ∀ p, H1 p = none → (p == sysModules) = false → ∃ V : Nat → Nat → Hp → Prop, (∃ m, V 0 m (upd H1 p (o0 p))) ∧
  ∀ i m H, V i m H → (J.stop i H ∧ Q (.ref p) H) ∨ (J.go i H ∧ ∃ N : Hp → Prop, (∀ H', N H' → ∃ m', m' < m ∧ V (i + 1) m' H') ∧
    ∀ x H', J.yld i H x H' → g x (L2.wipe σ vs) H' fun σ2 H2 => L2.wipe σ2 vs = L2.wipe σ vs ∧ tt σ2 H2 fun b H3 => match b with
      | true => tk σ2 H3 fun y H4 => tv σ2 H4 fun z H5 => st p y z H5 N
      | false => N H3)
theorem pe_dcG {kx vx tg iter : Expr} {ifs : List Expr} {scope : Scope} {own : List (Str × Nat)} {pos : Pos} {o0 : Addr → HO} {st : TSt} {wi : TI} {g : TG} {tt : TT} {tk tv : TE} (so : StoreOk X o0 st) (calm : X.calm = true) (nod : X.N.Nodup) (hi : PI X tg iter wi) (ok : BlkOk X.N X.env.scope scope own)
    (hg : BlkP X scope fun Y => PG Y tg g) (ht : BlkP X scope fun Y => PTs Y ifs tt) (hk : BlkP X scope fun Y => PE Y kx tk) (hv : BlkP X scope fun Y => PE Y vx tv)
    (hs : ∀ x, foldedSetIterable iter X.env x = pure x := by intro _; rfl) : PE X (.DictComp kx vx [⟨tg, iter, ifs, 0⟩] scope pos) (tDcG o0 st wi g tt tk tv (own.map (·.2))) := by
  refine ⟨fun pins s σ H Q I h => ?_⟩
  rw [arm_eval_DictComp]
  have caught : ∀ y ∈ scope.names, y.2 = .free → ∃ c, X.env.cells.lookup y.1 = some c := fun y hy e => (ok.free y hy e).elim (fun k => I.ok.has _ (.inl k)) fun k => I.ok.has _ (.inr k)
  refine wpAny_comprehension_free (use := none) rfl hs (closure_ok caught) ok.kind (fun y hy e => by rw [ok.uniq y hy, e]) (thn (hi.run pins s σ H _ I h) fun w1 sA hA => thn hA fun w2 sI hI => ?_)
  obtain ⟨it, fp, tn, J, HI, ew, II, T, stI, fI, q⟩ := hI
  subst ew
  refine wpAny_newObj_type (newEnv_comp ?_)
  generalize ep : sI.heap.objs.size = p
  have np : HI p = none := II.hok.fresh (Nat.le_of_eq ep)
  obtain ⟨V, ⟨m0, v0⟩, turn⟩ := q p np (beq_eq_false_iff_ne.mpr (by rw [← ep]; exact Ne.symm (Nat.ne_of_lt II.big)))
  generalize eD : ({ sI with heap := sI.heap.push { cls := .type "dict", data := .dict #[] } } : Shared) = sD
  have ID : Inv X pins σ (upd HI p (o0 p)) sD := by
    rw [← eD]
    have z := so.new (upd HI p (o0 p)) sI.heap II.big
    rw [ep] at z
    exact II.laid (t' := sI.toks) (fun b o e => Heap.get?_push_of_some _ e) (Nat.le_of_eq ep) z
  have hD : sD.heap = sI.heap.push { cls := .type "dict", data := .dict #[] } := by rw [← eD]
  have fD : ∀ b ∈ fp, FpOk X pins (upd HI p (o0 p)) b ∧ b < sD.heap.objs.size := fun b hb => by
    obtain ⟨o, e, _⟩ := T.obj _ _ stI b hb
    have lt := Heap.lt_size e
    have ne : b ≠ p := by rw [← ep]; exact Nat.ne_of_lt lt
    exact ⟨⟨by rw [upd_ne ne]; exact (fI b hb).1, (fI b hb).2⟩, by rw [hD, Heap.size_push]; exact Nat.lt_succ_of_lt lt⟩
  have stD : tn 0 sD.heap := T.keep _ _ _ stI fun b _ o e => by rw [hD]; exact Heap.get?_push_of_some _ e
  have IB := block_start ID ok nod fD
  generalize eC : sD.heap.objs.size = C at IB
  have g1 := hg sD (upd HI p (o0 p)) C (cellsFrom (C + 1) scope.names (cloFrom X.env.cells scope.names [])) fp
  have g2 := ht sD (upd HI p (o0 p)) C (cellsFrom (C + 1) scope.names (cloFrom X.env.cells scope.names [])) fp
  have g3 := hk sD (upd HI p (o0 p)) C (cellsFrom (C + 1) scope.names (cloFrom X.env.cells scope.names [])) fp
  have g4 := hv sD (upd HI p (o0 p)) C (cellsFrom (C + 1) scope.names (cloFrom X.env.cells scope.names [])) fp
  have hidden : ∀ b ∈ fp, (upd HI p (o0 p)) b = none := fun b hb => (fD b hb).1.1
  generalize eH : upd HI p (o0 p) = HD at ID IB g1 g2 g3 g4 v0 hidden fD
  show codeAny _ _ (.compStart _ 0 (.ref it) (.ref p) (compEnvC scope (cellsFrom (C + 1) scope.names (cloFrom X.env.cells scope.names [])) C X.env)) (compPost (model X.prog X.w) X.A X.xe none _ (.ref p) C) { sD with heap := pushCells (sD.heap.push { cls := .type "dict", data := .dict #[] }) scope.names }
  generalize ee : compEnvC scope (cellsFrom (C + 1) scope.names (cloFrom X.env.cells scope.names [])) C X.env = ce at IB g1 g2 g3 g4 ⊢
  have loc : ce.locals = C := by subst ee; rfl
  generalize eB : ({ sD with heap := pushCells (sD.heap.push { cls := .type "dict", data := .dict #[] }) scope.names } : Shared) = sB at IB ⊢
  have stB : tn 0 sB.heap := T.keep _ _ _ stD fun b _ o e => by rw [← eB]; exact pushCells_keeps _ _ _ _ (Heap.get?_push_of_some _ e)
  have fin : ∀ {τ : L2.St} {H' : Hp} {s' : Shared}, Inv (X.blk sD HD scope ce fp) [] τ H' s' → (∀ b ∈ fp, H' b = none) → ∀ b ∈ fp, FpOk (X.blk sD HD scope ce fp) [] H' b := fun {τ H' s'} I' n b hb =>
    ⟨n b hb, (I'.ok.exf b hb).1, I'.ok.exfs b hb, .inl hb, fun x c e => (I'.ok.exf b hb).2 x c e, fun r hr => absurd (show r ∈ ([] : List (Addr × Obj)) ++ [] from hr) (by simp)⟩
  have loop : codeAny (model X.prog X.w) X.A (.compLoop (.DictComp kx vx [⟨tg, iter, ifs, 0⟩] scope pos) 0 (.ref it) (.ref p) ce) (compPost (model X.prog X.w) X.A X.xe none (EP X pins σ Q) (.ref p) C) sB := by
    refine compLoop_anyD (fun n s' => ∃ i H', Inv (X.blk sD HD scope ce fp) [] (L2.wipe σ (own.map (·.2))) H' s' ∧ tn i s'.heap ∧ (∀ b ∈ fp, H' b = none) ∧ V i n H') ?_ m0 ⟨0, HD, IB, stB, hidden, v0⟩
    rintro n s5 ⟨i, H5, I5, st5, n5, v5⟩
    rcases turn i n H5 v5 with ⟨stop, done⟩ | ⟨go, N, less, step⟩
    · refine thnF (T.done (X.blk sD HD scope ce fp) rfl rfl rfl calm i [] s5 _ H5 (fun _ _ => False) I5 (fin I5 n5) st5 stop) fun r s6 ⟨er, I6⟩ => ?_
      subst er
      have I7 : Inv X pins σ H5 s6 := ID.call' (ch := fp) I6.os I6.base I6.hok I6.bare fun b hb => by
        obtain ⟨_, f1, f2, f3, f4, f5⟩ := (fD b hb).1
        exact ⟨f3, f1, f4, f5⟩
      obtain ⟨m, hm, _⟩ := I6.loc
      have hm : s6.heap.Ns ce.locals m := hm
      have fr : H5 ce.locals = none := I6.free
      rw [loc] at hm fr
      obtain ⟨k0, k1, k2, k3, k4, k5⟩ := ID.fpOk (H' := H5) (Nat.le_of_eq eC) fr
      refine ⟨m, hm, fun h'' sb => ⟨.ref p, H5, I7.turned (t' := s6.toks) (fun b o hb e => (sb.2 b hb).trans e) k0 k1 k3 k4 k5, rfl, done⟩⟩
    · refine thnF (T.item (X.blk sD HD scope ce fp) rfl rfl rfl calm i [] s5 _ H5 (fun _ _ => False) I5 (fin I5 n5) st5 go) fun r s6 ⟨u, er, h6⟩ => ?_
      subst er
      refine thnF h6 fun _ s7 ⟨x, H7, I7, r7, y7, st7, n7⟩ => ?_
      refine thnF (g1.run _ s7 _ H7 x u _ (I7.pinned (fin I7 n7) (T.obj _ _ st7)) r7 (step x H7 y7)) fun _ s8 ⟨τ, H8, I8, same, q8⟩ => ?_
      have back : ∀ {s' : Shared} {H' : Hp}, Inv (X.blk sD HD scope ce fp) ([] ++ pinsAt fp s7.heap) τ H' s' → N H' → ∃ m, m < n ∧ ∃ i H', Inv (X.blk sD HD scope ce fp) [] (L2.wipe σ (own.map (·.2))) H' s' ∧ tn i s'.heap ∧ (∀ b ∈ fp, H' b = none) ∧ V i m H' := fun {s' H'} I' nx => by
        obtain ⟨m', hm, v'⟩ := less H' nx
        have keep : ∀ b ∈ fp, ∀ o, s7.heap.get? b = some o → s'.heap.get? b = some o ∧ H' b = none := fun b hb o e => by
          have z := I'.pin (b, o) (List.mem_append_right _ (List.mem_append_right _ (mem_pinsAt hb e)))
          exact ⟨z.1, z.2.1⟩
        refine ⟨m', hm, i + 1, H', (I'.unpinned (pins := [])).weak (by rw [← same, L2.wipe_length]) (fun j v e => by rw [← same] at e; exact (wipe_some e).1), T.keep _ _ _ st7 fun b hb o e => (keep b hb o e).1, fun b hb => ?_, v'⟩
        obtain ⟨o, e, _⟩ := T.obj _ _ st7 b hb
        exact (keep b hb o e).2
      refine thnF (g2.run _ s8 τ H8 _ I8 q8) fun b s9 ⟨H9, I9, q9⟩ => ?_
      cases b with
      | false => exact back I9 q9
      | true =>
        refine thnF (g3.run _ s9 τ H9 _ I9 q9) fun w s10 ⟨yk, H10, I10, r10, q10⟩ => ?_
        refine thnF (g4.run _ s10 τ H10 _ I10 q10) fun w' s11 ⟨yv, H11, I11, r11, q11⟩ => ?_
        exact thn (so.put (X.blk sD HD scope ce fp) rfl rfl rfl rfl _ s11 τ H11 p yk yv w w' N _ I11 r10 r11 q11) fun _ s12 ⟨H12, I12, nx⟩ => back I12 nx
  exact codeAny_compStart_dict loop (T.self X.A 0 _ _ _ stB loop)
end
end Tw
/-! Dicts whose keys are tuples, over data. -/
namespace Tw
open PySem PySem.Spec PyProof.Rows L2
section
variable {X : Cx} {pins : List (Addr × Obj)} {σ : L2.St} {H : Hp} {s : Shared}
mutual
/-- data that is a key is that key in the heap -/
theorem nested_of (I : Inv X pins σ H s) : ∀ (d : D) (k : NestedKey) (v : V) (u : Value), keyD d = some k → Rep X.K H d v → RelV v u → NestedIs s.heap k u
  | .non, k, v, u, e, r, rv => by
    rw [rel_non r] at rv
    cases rv
    simp only [keyD, Option.some.injEq] at e
    subst e
    exact .none
  | .bl b, k, v, u, e, r, rv => by
    rw [rel_bl r] at rv
    cases rv
    simp only [keyD, Option.some.injEq] at e
    subst e
    exact .bool rfl
  | .int i, k, v, u, e, r, rv => by
    rw [rel_int r] at rv
    obtain ⟨t, rfl⟩ := rv
    simp only [keyD, Option.some.injEq] at e
    subst e
    exact .int i t
  | .str x, k, v, u, e, r, rv => by
    rw [rel_str r] at rv
    obtain ⟨t, rfl⟩ := rv
    simp only [keyD, Option.some.injEq] at e
    subst e
    exact .text _ t
  | .tup ds, k, v, u, e, r, rv => by
    obtain ⟨a, xs, ev, t, rr⟩ := rel_tup r
    subst ev
    cases rv
    simp only [keyD, Option.map_eq_some_iff] at e
    obtain ⟨ks, e1, e2⟩ := e
    subst e2
    obtain ⟨its, r1, ⟨o, h1, h2, n, h3⟩, _⟩ := I.tuple t.sqt
    exact .tup h1 h2 h3 (nested_ofs I ds ks xs its e1 rr r1)
  | .ty _, k, v, u, e, r, rv => by simp [keyD] at e
  | .ref _, k, v, u, e, r, rv => by simp [keyD] at e
  | .scr _, k, v, u, e, r, rv => by simp [keyD] at e
  | .fn _, k, v, u, e, r, rv => by simp [keyD] at e
theorem nested_ofs (I : Inv X pins σ H s) : ∀ (ds : List D) (ks : List NestedKey) (vs : List V) (us : List Value), keyDs ds = some ks → Reps X.K H ds vs → Vals vs us → NestedAll s.heap ks us
  | [], ks, vs, us, e, r, rv => by
    simp only [keyDs, Option.some.injEq] at e
    subst e
    simp only [Reps] at r
    subst r
    cases rv
    exact .nil
  | d :: ds, ks, vs, us, e, r, rv => by
    simp only [Reps] at r
    obtain ⟨x, z, ez, r1, r2⟩ := r
    subst ez
    cases rv with
    | cons q1 q2 =>
      simp only [keyDs] at e
      cases e1 : keyD d with
      | none => simp [e1] at e
      | some k =>
        cases e2 : keyDs ds with
        | none => simp [e1, e2] at e
        | some ks' =>
          simp only [e1, e2, Option.some.injEq] at e
          subst e
          exact .cons (nested_of I d k x _ e1 r1 q1) (nested_ofs I ds ks' z _ e2 r2 q2)
end
end
/-- one entry -/
def ERel (c : Cn) (H : Hp) (p : List D × D) (x : NestedKey × Addr × Value) : Prop :=
  keyD (.tup p.1) = some x.1 ∧ x.1.depth ≤ 8 ∧ Rep c.K H (.tup p.1) (.ref x.2.1) ∧ ∃ v, RelV v x.2.2 ∧ Rep c.K H p.2 v
abbrev ent (prog : Program) (w : World) (x : NestedKey × Addr × Value) : DictEntry := entryOfKey (nestedKind prog w) x
theorem ent_at {prog : Program} {c : Cn} {H : Hp} : ∀ {kvs : List (List D × D)} {es : List DictEntry}, EReps c H kvs es → ∃ xs : List (NestedKey × Addr × Value), es = xs.map (ent prog c.w) ∧ Paired (ERel c H) kvs xs
  | [], _, r => ⟨[], r, .nil⟩
  | p :: ps, _, ⟨e, r, q, ⟨k, b, v, e1, e0, e2, e3, e4, e5, e6⟩, t⟩ => by
    obtain ⟨xs, h1, h2⟩ := ent_at (prog := prog) t
    refine ⟨(k, b, e.val) :: xs, ?_, .cons ⟨e1, e0, e4, v, e5, e6⟩ h2⟩
    obtain ⟨hh, ek, ev⟩ := e
    simp only at e2 e3
    subst e2 e3
    rw [q, h1]
    rfl
theorem ent_of {prog : Program} {c : Cn} {H : Hp} : ∀ {kvs : List (List D × D)} {xs : List (NestedKey × Addr × Value)}, Paired (ERel c H) kvs xs → EReps c H kvs (xs.map (ent prog c.w))
  | _, _, .nil => rfl
  | _, _, .cons ⟨e1, e0, e4, v, e5, e6⟩ t => ⟨_, _, rfl, ⟨_, _, v, e1, e0, rfl, rfl, e4, e5, e6⟩, ent_of t⟩
theorem ERel.keys {c : Cn} {H : Hp} : ∀ {kvs : List (List D × D)} {xs : List (NestedKey × Addr × Value)}, Paired (ERel c H) kvs xs → (kvs.map fun p => keyD (.tup p.1)) = (xs.map (·.1)).map some
  | _, _, .nil => rfl
  | _, _, .cons h t => by rw [List.map_cons, List.map_cons, List.map_cons, h.1, ERel.keys t]
theorem nodup_some {α : Type} {xs : List α} : (xs.map some).Nodup ↔ xs.Nodup := by
  induction xs with
  | nil => simp
  | cons x xs ih => rw [List.map_cons, List.nodup_cons, List.nodup_cons, ih]; simp
/-- d[k] = v -/
def sameK (k : List D) (p : List D × D) : Bool := decide (keyD (.tup p.1) = keyD (.tup k))
def putT (kvs : List (List D × D)) (k : List D) (v : D) : List (List D × D) := if kvs.any (sameK k) then kvs.map fun p => if sameK k p then (p.1, v) else p else kvs ++ [(k, v)]
def valT (kvs : List (List D × D)) (k : List D) : Option D := (kvs.find? (sameK k)).map (·.2)
theorem same_key {c : Cn} {H : Hp} {p : List D × D} {x : NestedKey × Addr × Value} {k : List D} {kk : NestedKey} (r : ERel c H p x) (e : keyD (.tup k) = some kk) : sameK k p = decide (x.1 = kk) := by
  unfold sameK
  rw [r.1, e]
  simp
theorem find_rel {c : Cn} {H : Hp} {k : List D} {kk : NestedKey} (e : keyD (.tup k) = some kk) : ∀ {kvs : List (List D × D)} {xs : List (NestedKey × Addr × Value)}, Paired (ERel c H) kvs xs →
    (kvs.find? (sameK k) = none ∧ xs.find? (fun x => decide (x.1 = kk)) = none) ∨ ∃ p x, kvs.find? (sameK k) = some p ∧ xs.find? (fun x => decide (x.1 = kk)) = some x ∧ ERel c H p x
  | _, _, .nil => .inl ⟨rfl, rfl⟩
  | p :: ps, x :: xs, .cons h t => by
    have q := same_key h e
    cases b : sameK k p with
    | true =>
      rw [b] at q
      exact .inr ⟨p, x, by rw [List.find?_cons, b], by rw [List.find?_cons, ← q], h⟩
    | false =>
      rw [b] at q
      rcases find_rel e t with ⟨a1, a2⟩ | ⟨p', x', a1, a2, a3⟩
      · exact .inl ⟨by rw [List.find?_cons, b]; exact a1, by rw [List.find?_cons, ← q]; exact a2⟩
      · exact .inr ⟨p', x', by rw [List.find?_cons, b]; exact a1, by rw [List.find?_cons, ← q]; exact a2, a3⟩
theorem any_find {α : Type} (f : α → Bool) (xs : List α) : xs.any f = (xs.find? f).isSome := by
  induction xs with
  | nil => rfl
  | cons x xs ih => rw [List.any_cons, List.find?_cons]; cases f x <;> simp [ih]
theorem put_rel {c : Cn} {H : Hp} {k : List D} {kk : NestedKey} {b : Addr} {v : D} {u : Value} {kvs : List (List D × D)} {xs : List (NestedKey × Addr × Value)} (e : keyD (.tup k) = some kk) (hz : kk.depth ≤ 8) (r : Paired (ERel c H) kvs xs) (rk : Rep c.K H (.tup k) (.ref b)) (rv : ∃ w, RelV w u ∧ Rep c.K H v w) :
    Paired (ERel c H) (putT kvs k v) (storedH xs kk b u) := by
  have key : (kvs.any (sameK k)) = (atKey xs kk).isSome := by
    rw [any_find]
    unfold atKey
    rw [Option.isSome_map]
    rcases find_rel e r with ⟨a1, a2⟩ | ⟨p', x', a1, a2, a3⟩
    · rw [a1, a2]; rfl
    · rw [a1, a2]; rfl
  unfold putT storedH
  rw [key]
  cases (atKey xs kk).isSome with
  | true =>
    simp only [if_true]
    clear key
    induction r with
    | nil => exact .nil
    | @cons p x ps xs h t ih =>
      rw [List.map_cons, List.map_cons]
      refine .cons ?_ ih
      have q := same_key h e
      unfold putAt
      by_cases z : x.1 = kk
      · rw [decide_eq_true z] at q
        rw [q, if_pos rfl, if_pos z]
        exact ⟨h.1, h.2.1, h.2.2.1, rv⟩
      · rw [decide_eq_false z] at q
        rw [q, if_neg Bool.false_ne_true, if_neg z]
        exact h
  | false =>
    simp only [Bool.false_eq_true, if_false]
    clear key
    induction r with
    | nil => exact .cons ⟨e, hz, rk, rv⟩ .nil
    | cons h t ih => rw [List.cons_append, List.cons_append]; exact .cons h ih
section
variable {X : Cx} {pins : List (Addr × Obj)} {σ : L2.St} {H : Hp} {s : Shared} {c : Cn}
theorem is_of (I : Inv X pins σ H s) (ec : c.K = X.K) {p : List D × D} {x : NestedKey × Addr × Value} (r : ERel c H p x) : (nestedKind X.prog X.w).is s.heap x.1 x.2.1 := by
  refine ⟨?_, r.2.1⟩
  have z := r.2.2.1
  rw [ec] at z
  exact nested_of I _ _ _ _ r.1 z rfl
/-- the tracked dict as the library's -/
theorem dth_of (I : Inv X pins σ H s) (ec : c.K = X.K) (ew : c.w = X.w) {a : Addr} {es : Array DictEntry} {kvs : List (List D × D)} (e : H a = some (rawD a es)) (r : EReps c H kvs es.toList) (nd : (kvs.map fun p => keyD (.tup p.1)).Nodup) :
    ∃ xs, s.heap.DictOfH (nestedKind X.prog X.w) a xs ∧ Paired (ERel c H) kvs xs ∧ es.toList = xs.map (ent X.prog X.w) := by
  obtain ⟨xs, h1, h2⟩ := ent_at (prog := X.prog) r
  rw [ew] at h1
  obtain ⟨⟨o, ep, q1, q2, q3⟩, _⟩ := (show ObjOk X.prog X.w H s.heap a (rawD a es) from I.hok a _ e)
  refine ⟨xs, ⟨o, es, ep, q1, q2, q3, h1, fun x hx => ?_, ?_⟩, h2, h1⟩
  · have : ∀ {kvs : List (List D × D)} {xs : List (NestedKey × Addr × Value)}, Paired (ERel c H) kvs xs → ∀ x ∈ xs, ∃ p, ERel c H p x := by
      intro kvs xs pr
      induction pr with
      | nil => intro x hx; cases hx
      | cons h t ih =>
        intro x hx
        rcases List.mem_cons.mp hx with e | hx
        · subst e; exact ⟨_, h⟩
        · exact ih x hx
    obtain ⟨p, hp⟩ := this h2 x hx
    exact is_of I ec hp
  · rw [ERel.keys h2] at nd
    exact nodup_some.mp nd
theorem raw_ok {P : Program} {w : World} {H : Hp} {h : Heap} {a : Addr} {xs : List (NestedKey × Addr × Value)} (d : h.DictOfH (nestedKind P w) a xs) : ∃ es : Array DictEntry, es.toList = xs.map (ent P w) ∧ ObjOk P w H h a (rawD a es) := by
  obtain ⟨o, es, ep, h1, h2, h3, h4, h5, h6⟩ := d
  refine ⟨es, h4, ⟨o, ep, h1, h2, h3⟩, ⟨o, h1⟩, fun ha hb ⟨o, ep, q1, q2, q3⟩ k => ⟨o, ep, k o q1, q2, q3⟩⟩
/-- what a dict with tuple keys is, as far as H says -/
structure DthAt (c : Cn) (H : Hp) (a : Addr) (es : Array DictEntry) (kvs : List (List D × D)) : Prop where
  at_ : H a = some (rawD a es)
  ents : EReps c H kvs es.toList
  nd : (kvs.map fun p => keyD (.tup p.1)).Nodup
  sm : (a == sysModules) = false
theorem keyNd {kvs : List (List D × D)} {k : List D} {v : D} {kk : NestedKey} (e : keyD (.tup k) = some kk) (nd : (kvs.map fun p => keyD (.tup p.1)).Nodup) : ((putT kvs k v).map fun p => keyD (.tup p.1)).Nodup := by
  unfold putT
  split
  · have : ((kvs.map fun p => if sameK k p = true then (p.1, v) else p).map fun p => keyD (.tup p.1)) = kvs.map fun p => keyD (.tup p.1) := by
      rw [List.map_map]
      refine List.map_congr_left fun p _ => ?_
      show keyD (.tup (if sameK k p = true then (p.1, v) else p).1) = _
      split <;> rfl
    rw [this]
    exact nd
  · rename_i h
    rw [List.map_append, List.nodup_append]
    refine ⟨nd, by simp, fun x hx y hy => ?_⟩
    simp only [List.map_cons, List.map_nil, List.mem_singleton] at hy
    subst hy
    obtain ⟨p, hp, e1⟩ := List.mem_map.mp hx
    intro e2
    apply h
    rw [List.any_eq_true]
    exact ⟨p, hp, by unfold sameK; rw [e1, e2]; simp⟩
/-- the store -/
def stT (c : Cn) : TSt := fun p y z H N => ∃ (es : Array DictEntry) (kvs : List (List D × D)) (k : List D) (v : D), DthAt c H p es kvs ∧ Rep c.K H (.tup k) y ∧ Rep c.K H v z ∧ (∃ kk, keyD (.tup k) = some kk ∧ kk.depth ≤ 8) ∧ kvs.length ≤ sizeLine ∧
  ∀ es', DthAt c (upd H p (rawD p es')) p es' (putT kvs k v) → N (upd H p (rawD p es'))
theorem keeps_raw {a : Addr} {es es' : Array DictEntry} (e : H a = some (rawD a es)) : Keeps H (upd H a (rawD a es')) :=
  ⟨fun b xs q => by rw [upd_ne (fun z => by subst z; rw [e] at q; cases q)]; exact q, fun b ob z q => by rw [upd_ne (fun y => by subst y; rw [e] at q; cases q)]; exact q⟩
theorem put_t (I : Inv X pins σ H s) (hu : X.A.units + 8 < cLine) {T : Tb} {p : Addr} {y z : V} {u r : Value} {N : Hp → Prop} {E : Value → Shared → Prop} (ry : RelV y u) (rz : RelV z r) (h : stT (cn X T) p y z H N) :
    wpAny (model X.prog X.w) X.A (dictSet p u r) (fun _ s' => ∃ H', Inv X pins σ H' s' ∧ N H') E s := by
  obtain ⟨es, kvs, k, v, d, rk, rv, ⟨kk, ek, hz⟩, hl, n⟩ := h
  obtain ⟨xs, dx, px, ex⟩ := dth_of (c := cn X T) I rfl rfl d.at_ d.ents d.nd
  obtain ⟨b, ws, ey, t, rr⟩ := rel_tup rk
  subst ey
  cases ry
  have len : xs.length = kvs.length := px.length.symm
  refine wpAny_dictSet_heap (knd := nestedKind X.prog X.w) (k := kk) hu ⟨nested_of I _ _ _ _ ek rk rfl, hz⟩ dx (fun h' d' sb => ?_) (by omega)
  obtain ⟨es', e4, ok⟩ := raw_ok (H := upd H p (rawD p es)) d'
  have kp := keeps_raw (es' := es') d.at_
  have pr := put_rel (c := cn X T) (v := v) (u := r) ek hz px rk ⟨z, rz, rv⟩
  have er := ent_of (prog := X.prog) pr
  have d2 : DthAt (cn X T) (upd H p (rawD p es')) p es' (putT kvs k v) := ⟨upd_same, by rw [e4]; exact EReps.keep kp _ _ er, keyNd ek d.nd, d.sm⟩
  refine ⟨upd H p (rawD p es'), ?_, n es' d2⟩
  obtain ⟨o, _, ep, o1, _⟩ := id d'
  refine d_write I (by rw [d.at_]; exact True.intro) sb ⟨o, o1⟩ ?_
  obtain ⟨es2, e5, ok2⟩ := raw_ok (H := upd H p (rawD p es')) d'
  have : es2 = es' := by
    apply Array.toList_inj.mp
    rw [e5, e4]
  subst this
  exact ok2
theorem store_t (hu : X.A.units + 8 < cLine) (T : Tb) : StoreOk X (fun a => rawD a #[]) (stT (cn X T)) := by
  refine ⟨fun H h hb => ?_, ?_⟩
  · obtain ⟨es, e, ok⟩ := raw_ok (H := H) (Heap.DictOfH.new (knd := nestedKind X.prog X.w) h)
    have : es = #[] := by
      apply Array.toList_inj.mp
      rw [e]
      rfl
    subst this
    exact ok
  · intro Y e1 e2 e3 e4 pins s σ H p y z u r N E I ry rz h
    have : cn X T = cn Y T := by simp only [cn, e2, e3]
    rw [this] at h
    rw [← e1, ← e2, ← e4]
    exact put_t I (by rw [e4]; exact hu) ry rz h
end
end Tw
/-! Dict comprehensions with tuple keys; sorted, over data. -/
namespace Tw
open PySem PySem.Spec PyProof.Rows L2
/-- what D does not see is seen -/
theorem RelH.show_ {c : Cn} {h : DHp} {H : Hp} {p : Addr} {o : DO} (rh : RelH c H h) (r : ObR c H p o) : RelH c H (put h p o) := by
  refine ⟨fun a u ea => ?_, rh.tabs⟩
  by_cases q : a = p
  · subst q
    rw [put_same] at ea
    cases ea
    exact r
  · rw [put_ne q] at ea
    exact rh.at_ a u ea
theorem noCode_raw {a : Addr} {es : Array DictEntry} : NoCode (rawD a es) := fun b q z => by
  have z' := congrFun (HO.ext.inj z) { objs := Array.replicate (a + 1) { cls := .type "dict", data := .dict es 0 } }
  have l : ∃ o ep, Heap.get? { objs := Array.replicate (a + 1) ({ cls := .type "dict", data := .dict es 0 } : Obj) } a = some o ∧ o.ExactDict ∧ o.data = .dict es ep := by
    refine ⟨{ cls := .type "dict", data := .dict es 0 }, 0, ?_, ⟨rfl, rfl, rfl⟩, rfl⟩
    unfold Heap.get?
    simp
  have r := z'.mp l
  obtain ⟨oc, vs, t, e, d, _⟩ := r
  unfold Heap.get? at e
  by_cases hb : b < a + 1
  · rw [Array.getElem?_eq_getElem (by simpa using hb)] at e
    simp at e
    subst e
    cases d
  · rw [Array.getElem?_eq_none (by simpa using hb)] at e
    cases e
theorem RelH.hidRaw {c : Cn} {h : DHp} {H : Hp} {p : Addr} {es es' : Array DictEntry} (rh : RelH c H h) (e : H p = some (rawD p es)) (n : h p = none) : RelH c (upd H p (rawD p es')) h := by
  have k : Keeps H (upd H p (rawD p es')) := keeps_raw e
  refine ⟨fun a o ea => ?_, fun q hq => ?_⟩
  · have na : a ≠ p := fun z => by subst z; rw [n] at ea; cases ea
    exact (rh.at_ a o ea).keep k (upd_ne na)
  · obtain ⟨ps, t1, t2, t3⟩ := rh.tabs q hq
    refine ⟨ps, by rw [upd_ne (fun z => by subst z; rw [e] at t1; cases t1)]; exact t1, t2, fun pos cv hc => ?_⟩
    obtain ⟨b, e1, e2⟩ := t3 pos cv hc
    exact ⟨b, e1, by rw [upd_ne fun y => by subst y; rw [e] at e2; exact noCode_raw _ _ (Option.some.inj e2)]; exact e2⟩
/-- a key that the library takes -/
def okKey (k : List D) : Prop := ∃ kk, keyD (.tup k) = some kk ∧ kk.depth ≤ 8
def DcB (p : Pat) (tt : MT) (mk mv : ME) (vs : List Nat) (δ : DSt) (Q : DK) (ds : List D) (ok : DHp → Prop) (h1 : DHp) : Prop := ∃ V : Nat → List (List D × D) → DHp → Prop, V 0 [] h1 ∧ ∀ i acc h, V i acc h → ok h ∧
  (i = ds.length → ∀ q, h q = none → Q (.ref q) (put h q (.dth acc))) ∧
  ∀ d, ds[i]? = some d → ∃ δ2, patB p d (dwipe δ vs) = some δ2 ∧ tt δ2 h (fun b h3 => (b = true → mk δ2 h3 (fun y h4 => mv δ2 h4 (fun z h5 => match y with
      | .tup k => okKey k ∧ acc.length ≤ sizeLine ∧ V (i + 1) (putT acc k z) h5
      | _ => False) nox) nox) ∧
    (b = false → V (i + 1) acc h3)) nox
def dDcT (mi : MI) (p : Pat) (tt : MT) (mk mv : ME) (vs : List Nat) : ME := fun δ h Q E => mi δ h (fun ds ok h1 => DcB p tt mk mv vs δ Q ds ok h1) E
/-- keys and values that leave the heap as it is -/
def putTs (acc : List (List D × D)) (kvs : List (List D × D)) : List (List D × D) := kvs.foldl (fun a p => putT a p.1 p.2) acc
theorem putT_len (acc : List (List D × D)) (k : List D) (v : D) : (putT acc k v).length ≤ acc.length + 1 := by
  unfold putT
  split
  · rw [List.length_map]; omega
  · rw [List.length_append]; simp
theorem putTs_len : ∀ (kvs acc : List (List D × D)), (putTs acc kvs).length ≤ acc.length + kvs.length
  | [], acc => by simp [putTs]
  | p :: kvs, acc => by
    have h1 := putT_len acc p.1 p.2
    have h2 := putTs_len kvs (putT acc p.1 p.2)
    show (putTs (putT acc p.1 p.2) kvs).length ≤ _
    rw [List.length_cons]
    omega
theorem dcB_map {p : Pat} {mk mv : ME} {vs : List Nat} {δ : DSt} {Q : DK} {ds : List D} {ok : DHp → Prop} {h : DHp} (f : D → List D) (g : D → D) (hok : ok h) (hz : ds.length ≤ sizeLine)
    (he : ∀ d ∈ ds, okKey (f d) ∧ ∃ δ2, patB p d (dwipe δ vs) = some δ2 ∧ (∀ K : DK, K (.tup (f d)) h → mk δ2 h K nox) ∧ ∀ K : DK, K (g d) h → mv δ2 h K nox)
    (q : ∀ r, h r = none → Q (.ref r) (put h r (.dth (putTs [] (ds.map fun d => (f d, g d)))))) : DcB p dYes mk mv vs δ Q ds ok h := by
  refine ⟨fun i acc h' => h' = h ∧ i ≤ ds.length ∧ acc = putTs [] ((ds.take i).map fun d => (f d, g d)), ⟨rfl, Nat.zero_le _, rfl⟩, ?_⟩
  rintro i acc h' ⟨rfl, hi, rfl⟩
  refine ⟨hok, fun e r n => ?_, fun d hd => ?_⟩
  · subst e
    rw [List.take_length]
    exact q r n
  · obtain ⟨hlt, hd'⟩ := List.getElem?_eq_some_iff.mp hd
    obtain ⟨okk, δ2, e1, e2, e3⟩ := he d (List.mem_of_getElem? hd)
    refine ⟨δ2, e1, fun _ => e2 _ (e3 _ ⟨okk, ?_, rfl, hlt, ?_⟩), fun z => by cases z⟩
    · have := putTs_len ((ds.take i).map fun d => (f d, g d)) []
      rw [List.length_map, List.length_take, List.length_nil, Nat.zero_add] at this
      omega
    · rw [← hd', List.take_succ_eq_append_getElem hlt, List.map_append]
      unfold putTs
      rw [List.foldl_append]
      rfl
section
variable {X : Cx} {T : Tb} {W : WX} {kx vx tg iter : Expr} {ifs : List Expr} {scope : Scope} {own : List (Str × Nat)} {pos : Pos} {mi : MI} {p : Pat} {tt : MT} {mk mv : ME}
theorem DthAt.keep {c : Cn} {H H' : Hp} {a : Addr} {es : Array DictEntry} {kvs : List (List D × D)} (d : DthAt c H a es kvs) (k : Keeps H H') (e : H' a = some (rawD a es)) : DthAt c H' a es kvs := ⟨e, EReps.keep k _ _ d.ents, d.nd, d.sm⟩
theorem up_dcT (hv : ∀ i ∈ patV p, i ∈ own.map (·.2)) : ∀ σ H Q, up (cn X T) W (dDcT mi p tt mk mv (own.map (·.2))) σ H Q →
    tDcG (fun a => rawD a #[]) (stT (cn X T)) (upI (cn X T) W mi) (patG X.K p) (upT (cn X T) WF tt) (up (cn X T) WF mk) (up (cn X T) WF mv) (own.map (·.2)) σ H Q := by
  rintro σ H Q ⟨δ, h, Q', E', rs, rh, q, k, kx⟩
  refine ⟨δ, h, _, _, rs, rh, q, fun J ds ok H1 h1 x1 rh1 io q1 L nL sL => ?_, kx⟩
  obtain ⟨V, v0, turn⟩ := q1
  obtain ⟨rh1', x1'⟩ := rh1.hid (u := rawD L #[]) nL
  have nL1 : h1 L = none := rh1.fresh nL
  -- what holds at each turn
  let S : Nat → Hp → Prop := fun i H' => ∃ acc es h', (∀ a o, a ≠ L → h1 a = none → H1 a = some o → (∀ ps, o ≠ .tbl ps) → H' a = some o ∧ h' a = none) ∧ Keeps H1 H' ∧ RelH (cn X T) H' h' ∧ h' L = none ∧ DthAt (cn X T) H' L es acc ∧ V i acc h'
  refine ⟨fun i mm H' => mm = ds.length - i ∧ i ≤ ds.length ∧ S i H', ⟨ds.length, rfl, Nat.zero_le _, [], #[], h1, fun a o na n e nt => ⟨by rw [upd_ne na]; exact e, n⟩, keeps_new nL, rh1', nL1, ⟨upd_same, rfl, List.nodup_nil, sL⟩, v0⟩, ?_⟩
  rintro i mm H2 ⟨em, hi, acc, es, h2, x2, k2, rh2, n2, d2, v2⟩
  obtain ⟨ok2, fin, step⟩ := turn i acc h2 v2
  by_cases hlt : i < ds.length
  · refine .inr ⟨io.go i H2 h2 k2 rh2 ok2 hlt, S (i + 1), fun H' z => ⟨ds.length - (i + 1), by omega, rfl, hlt, z⟩, fun x H3 y => ?_⟩
    have hd : ds[i]? = some ds[i] := List.getElem?_eq_getElem hlt
    obtain ⟨r3, rh3, x3⟩ := io.yld i H2 x H3 h2 _ k2 rh2 ok2 hd y
    obtain ⟨δ2, hp, q3⟩ := step _ hd
    have kH : Keeps H H3 := by
      have a := x1.keeps rh
      have b := x3.keeps rh2
      exact ⟨fun c xs e => b.1 _ _ (k2.1 _ _ (a.1 _ _ e)), fun c o z e => b.2 _ _ _ (k2.2 _ _ _ (a.2 _ _ _ e))⟩
    refine pat_ok (c := cn X T) p _ x _ δ2 _ _ hp r3 ((rs.keep kH).wipe _) fun σ2 rs2 w2 => ⟨?_, ?_⟩
    · rw [w2 _ hv]
      have ww : ∀ (l vs : List Nat), (∀ i ∈ l, i ∈ vs) → L2.wipe (L2.wipe σ l) vs = L2.wipe σ vs := by
        intro l
        induction l with
        | nil => intro vs _; rfl
        | cons a l ih =>
          intro vs hl
          show L2.wipe ((L2.wipe σ l).set a none) vs = _
          rw [wipe_set _ _ vs (hl a (by simp)), ih vs fun i hi => hl i (by simp [hi])]
      exact ww _ _ fun i hi => hi
    · have nt : ∀ ps, rawD L es ≠ .tbl ps := fun ps z => by cases z
      have e3 : H3 L = some (rawD L es) := x3.same n2 d2.at_ nt
      have d3 := d2.keep (x3.keeps rh2) e3
      refine ⟨δ2, h2, _, nox, rs2, rh3, q3, fun b H4 h4 x4 rh4 q4 => ?_, fun _ _ _ _ _ z => z⟩
      have e4 : H4 L = some (rawD L es) := x4.same n2 e3 nt
      have d4 := d3.keep (x4.keeps rh3) e4
      have n4 : h4 L = none := (x4 L _ n2 e3 (fun _ z => by cases z)).2
      have x24 := x3.trans x4
      have thr : ∀ {H' : Hp} {h' : DHp}, Ext h2 h' H2 H' → ∀ a o, a ≠ L → h1 a = none → H1 a = some o → (∀ ps, o ≠ .tbl ps) → H' a = some o ∧ h' a = none := fun {H' h'} xx a o na n e nt => by
        obtain ⟨e1, m1⟩ := x2 a o na n e nt
        exact xx a o m1 e1 nt
      have kpt : ∀ {H' : Hp} {h' : DHp}, Ext h2 h' H2 H' → Keeps H1 H' := fun {H' h'} xx => by
        have b := xx.keeps rh2
        exact ⟨fun c xs e => b.1 _ _ (k2.1 _ _ e), fun c o z e => b.2 _ _ _ (k2.2 _ _ _ e)⟩
      cases b with
      | false => exact ⟨acc, es, h4, thr x24, kpt x24, rh4, n4, d4, q4.2 rfl⟩
      | true =>
        refine ⟨δ2, h4, _, nox, rs2.keep (x4.keeps rh3), rh4, q4.1 rfl, fun y dy H5 h5 x5 r5 rh5 q5 => ?_, fun _ _ _ _ _ z => z⟩
        have e5 : H5 L = some (rawD L es) := x5.same n4 e4 nt
        have d5 := d4.keep (x5.keeps rh4) e5
        have n5 : h5 L = none := (x5 L _ n4 e4 (fun _ z => by cases z)).2
        have x25 := x24.trans x5
        refine ⟨δ2, h5, _, nox, (rs2.keep (x4.keeps rh3)).keep (x5.keeps rh4), rh5, q5, fun z dz H6 h6 x6 r6 rh6 q6 => ?_, fun _ _ _ _ _ z => z⟩
        have e6 : H6 L = some (rawD L es) := x6.same n5 e5 nt
        have d6 := d5.keep (x6.keeps rh5) e6
        have n6 : h6 L = none := (x6 L _ n5 e5 (fun _ z => by cases z)).2
        have x26 := x25.trans x6
        cases dy with
        | tup key =>
          obtain ⟨okk, hz, q6⟩ := q6
          refine ⟨es, acc, key, dz, d6, Rep.keep (x6.keeps rh5) _ _ r5, r6, okk, hz, fun es' d7 => ?_⟩
          refine ⟨putT acc key dz, es', h6, fun a o na n e nt => ?_, ?_, rh6.hidRaw e6 n6, n6, d7, q6⟩
          · obtain ⟨e1, m1⟩ := thr x26 a o na n e nt
            exact ⟨by rw [upd_ne na]; exact e1, m1⟩
          · have b := kpt x26
            have k6 : Keeps H6 (upd H6 L (rawD L es')) := keeps_raw e6
            exact ⟨fun c xs e => k6.1 _ _ (b.1 _ _ e), fun c o z e => k6.2 _ _ _ (b.2 _ _ _ e)⟩
        | _ => exact False.elim q6
  · have hi3 : i = ds.length := by omega
    subst hi3
    refine .inl ⟨io.stop H2 h2 k2 rh2 ok2, ?_⟩
    have rh3 := rh2.show_ (p := L) (o := .dth acc) ⟨es, d2.at_, d2.ents, d2.nd, d2.sm⟩
    refine k _ _ H2 (put h2 L (.dth acc)) (fun a o n e nt => ?_) mk_ref rh3 (fin rfl L n2)
    obtain ⟨e1, m1⟩ := x1 a o n e nt
    have na : a ≠ L := fun z => by subst z; rw [nL] at e1; cases e1
    obtain ⟨e2', m2⟩ := x2 a o na m1 e1 nt
    exact ⟨e2', by rw [put_ne na]; exact m2⟩
theorem de_dcT (hc : X.calm = true) (hN : X.N.Nodup) (hu : X.A.units + 8 < cLine) (hi : DI X T W tg iter mi) (ok : BlkOk X.N X.env.scope scope own) (hv : ∀ i ∈ patV p, i ∈ own.map (·.2))
    (hg : BlkP X scope fun Y => PG Y tg (patG X.K p)) (ht : BlkP X scope fun Y => DTs Y T ifs tt) (hk : BlkP X scope fun Y => DE Y T WF kx mk) (he : BlkP X scope fun Y => DE Y T WF vx mv) (hs : ∀ x, foldedSetIterable iter X.env x = pure x := by intro _; rfl) :
    DE X T W (.DictComp kx vx [⟨tg, iter, ifs, 0⟩] scope pos) (dDcT mi p tt mk mv (own.map (·.2))) :=
  pe_imp (pe_dcG (X := X) (tk := up (cn X T) WF mk) (tv := up (cn X T) WF mv) (tt := upT (cn X T) WF tt) (store_t hu T) hc hN hi ok hg (fun s H C cl fp => (ht s H C cl fp).t) hk he hs) (up_dcT hv)
end

/-! ### sorted -/
/-- the items in Python's order, by the data ps of them -/
def sortD (ds : List D) (ps : List PyData) : List D := ((ds.zip ps).mergeSort (PySem.W.dataLe false (·.2))).map (·.1)
section
variable {X : Cx} {T : Tb} {pins : List (Addr × Obj)} {σ : L2.St} {H : Hp} {s : Shared} {h : DHp} {c : Cn}
def SR (c : Cn) (H : Hp) (u : Value) (b : D × PyData) : Prop := ∃ v, RelV v u ∧ Rep c.K H b.1 v
theorem each_of (I : Inv X pins σ H s) (rh : RelH (cn X T) H h) : ∀ {ds : List D} {ps : List PyData} {vs : List V} {us : List Value}, PyA h ds ps → Reps X.K H ds vs → Vals vs us →
    PySem.W.EachIs (SR (cn X T) H) us (ds.zip ps) ∧ PySem.W.EachIs (fun u b => ∃ as, Reads s.heap u (Prod.snd b) as) us (ds.zip ps)
  | [], _, _, _, .nil, r, rv => by
    simp only [Reps] at r
    subst r
    cases rv
    exact ⟨.nil, .nil⟩
  | d :: ds, _, _, _, .cons y1 y2, r, rv => by
    simp only [Reps] at r
    obtain ⟨x, z, ez, r1, r2⟩ := r
    subst ez
    cases rv with
    | cons q1 q2 =>
      obtain ⟨a1, a2⟩ := each_of I rh y2 r2 q2
      exact ⟨.cons ⟨x, q1, r1⟩ a1, .cons (Dp.reads I _ _ _ (y1.dp rh _ _ _ r1) q1) a2⟩
theorem sr_out : ∀ {us : List Value} {bs : List (D × PyData)}, PySem.W.EachIs (SR c H) us bs → ∃ vs, Reps c.K H (bs.map (·.1)) vs ∧ Vals vs us
  | _, _, .nil => ⟨[], Reps.nil, .nil⟩
  | _, _, .cons ⟨v, r1, r2⟩ t => by
    obtain ⟨vs, q1, q2⟩ := sr_out t
    exact ⟨v :: vs, Reps.cons r2 q1, .cons r1 q2⟩
theorem pya_len : ∀ {ds : List D} {ps : List PyData}, PyA h ds ps → ds.length = ps.length
  | _, _, .nil => rfl
  | _, _, .cons _ t => by simp [pya_len t]
theorem zip_snd : ∀ {ds : List D} {ps : List PyData}, ds.length = ps.length → (ds.zip ps).map (·.2) = ps
  | [], [], _ => rfl
  | d :: ds, p :: ps, e => by simp [zip_snd (ds := ds) (ps := ps) (by simpa using e)]
/-- what is sorted: the items of a list, the keys of a dict -/
def sortItems (d : D) (h : DHp) : Option (List D) := match d with
  | .ref a => match h a with
    | some (.lst ds) => some ds
    | some (.dth kvs) => some (kvs.map fun p => .tup p.1)
    | _ => none
  | _ => none
def bSorted : RC := fun ds h Q => match ds with
  | [d] => ∃ xs ps, sortItems d h = some xs ∧ PyA h xs ps ∧ PySem.W.AllAlike ps ∧ PySem.W.Sortable ps ∧ (∀ p ∈ ps, p.depth ≤ 60) ∧ xs.length ≤ sizeLine ∧ ∀ q, h q = none → Q (.ref q) (put h q (.lst (sortD xs ps)))
  | _ => False
theorem keys_vals {xs : List (NestedKey × Addr × Value)} {kvs : List (List D × D)} (r : Paired (ERel c H) kvs xs) : Reps c.K H (kvs.map fun p => .tup p.1) (xs.map fun x => .ref x.2.1) ∧ Vals (xs.map fun x => V.ref x.2.1) (xs.map fun x => Value.ref x.2.1) := by
  induction r with
  | nil => exact ⟨Reps.nil, .nil⟩
  | cons h t ih =>
    rw [List.map_cons, List.map_cons, List.map_cons]
    exact ⟨Reps.cons h.2.2.1 ih.1, .cons rfl ih.2⟩
theorem list_eq_at {α : Type} : ∀ {xs ys : List α}, xs.length = ys.length → (∀ (j : Nat) (v : α), xs[j]? = some v → ys[j]? = some v) → xs = ys
  | [], [], _, _ => rfl
  | x :: xs, y :: ys, h, f => by
    have e := f 0 x (by simp)
    simp at e
    subst e
    rw [list_eq_at (xs := xs) (ys := ys) (by simpa using h) fun j v q => by simpa using f (j + 1) v (by simpa using q)]
theorem cd_sorted (hc : X.calm = true) (hu : X.A.units + 64 < cLine) : CD X T (.builtin "sorted") bSorted := by
  intro pins s σ H vs us Q I rv hh
  obtain ⟨ds, h, Q', r, rh, q, k⟩ := hh
  match ds, q, r with
  | [d], ⟨items, ps, ei, py, hal, hk, hd, hz, q⟩, r =>
    obtain ⟨v, ev, r1⟩ := reps1 r
    subst ev
    obtain ⟨u, eu, ru⟩ := vals1 rv
    subst eu
    have hps := zip_snd (pya_len py)
    have hlen : (items.zip ps).length = items.length := by rw [List.length_zip, ← pya_len py, Nat.min_self]
    cases d with
    | ref a =>
      rw [rel_ref r1] at ru
      obtain rfl : u = Value.ref a := ru
      simp only [sortItems] at ei
      cases eo : h a with
      | none => simp [eo] at ei
      | some o =>
        cases o with
        | lst xs =>
          simp only [eo, Option.some.injEq] at ei
          subst ei
          obtain ⟨ws, _, rr, eH⟩ := sql_lst rh eo
          obtain ⟨its, rvv, pl, _⟩ := I.list (.inl (.inl eH))
          obtain ⟨e1, e2⟩ := each_of (X := X) (T := T) I rh py rr rvv
          refine PySem.W.sorted_data (bs := xs.zip ps) (enc := Prod.snd) pl.isList e1 e2 (by rw [hps]; exact hal) (by rw [hps]; exact hk) (by rw [hlen]; exact hz) (fun b hb => ?_) fun out ho eo2 => ?_
          · have : b.2 ∈ ps := by rw [← hps]; exact List.mem_map.mpr ⟨b, hb, rfl⟩
            have := hd _ this
            omega
          · obtain ⟨ws', q1, q2⟩ := sr_out eo2
            obtain ⟨ep, he'⟩ := PyProof.Rows.sortedAll_at s.heap its out.toArray
            have np : H (s.heap.objs.size + 1) = none := I.hok.fresh (Nat.le_succ _)
            obtain ⟨rh2, x2⟩ := RelH.newList rh np q1
            have l1 : ws'.length ≤ sizeLine := by rw [q2.length, ho, hlen]; exact hz
            exact ⟨.ref _, _, I.laid (t' := s.toks) (o := .lst ws') (fun _ _ => PyProof.Rows.sortedAll_old) (Nat.le_succ _) ⟨l1, out, ep, q2, he'⟩, rfl, k _ _ _ _ x2 mk_ref rh2 (q _ (rh.fresh np))⟩
        | dth kvs =>
          simp only [eo, Option.some.injEq] at ei
          subst ei
          obtain ⟨es, a1, a2, a3, a4⟩ := rh.at_ _ _ eo
          obtain ⟨xs, dx, px, ex⟩ := dth_of (c := cn X T) I rfl rfl a1 a2 a3
          obtain ⟨o, ep, o1, o2, o3⟩ := (show ObjOk X.prog X.w H s.heap a (rawD a es) from I.hok a _ a1).1
          have hes : es.size = xs.length := by rw [← Array.length_toList, ex, List.length_map]
          have hxl : xs.length = kvs.length := px.length.symm
          have hz' : kvs.length ≤ sizeLine := by simpa using hz
          refine Calls.call_function_entry PyProof.Rows.kind_sorted PyProof.Rows.plain_sorted PyProof.Rows.entry_sorted (PyProof.Rows.args_sorted1 _) ?_
          unfold Builtin.«sorted»
          refine wpAny_bind (m := checkCount "sorted" 1 1 _) (wpAny_pure ?_)
          refine wpAny_bind (PySem.W.kdu_collect (A := X.A.in1) (kdl_raw (prog := X.prog) (w := X.w) (d := a) a4 o2 o3) (I.ok.hd hc) o1 (by omega) fun h' tk acc hkp hacc => ?_)
          obtain ⟨rr, vv⟩ := keys_vals px
          have eacc : acc.toList = xs.map fun x => Value.ref x.2.1 := by
            refine list_eq_at (by rw [Array.length_toList, hacc.1, hes, List.length_map]) fun j w e => ?_
            obtain ⟨en, q1, q2⟩ := hacc.2 j w (by rw [← Array.getElem?_toList]; exact e)
            rw [← Array.getElem?_toList, ex, List.getElem?_map] at q1
            rw [List.getElem?_map]
            cases ej : xs[j]? with
            | none => rw [ej] at q1; cases q1
            | some x =>
              rw [ej] at q1
              cases q1
              rw [q2]
              rfl
          have I1 : Inv X pins σ H { s with heap := h', toks := tk } := I.kept hkp
          have hal' : acc.toList.length = kvs.length := by rw [eacc, List.length_map, hxl]
          obtain ⟨e1, e2⟩ := each_of (X := X) (T := T) I1 rh py rr vv
          rw [← eacc] at e1 e2
          refine wpAny_bind (wpAny_newList ?_ (by rw [hal']; exact hz'))
          generalize eL : h'.objs.size = L
          have hoL : (h'.push (seqObj "list" acc.toList.toArray 0)).get? L = some (seqObj "list" acc.toList.toArray 0) := by rw [← eL]; exact Heap.get?_push_size _ rfl
          have er' : PySem.W.EachIs (fun v b => ∃ as, Reads (PySem.W.sortingHeap (h'.push (seqObj "list" acc.toList.toArray 0)) L acc.toList) v (Prod.snd b) as) acc.toList ((kvs.map fun p => D.tup p.1).zip ps) :=
            e2.mono fun _ _ ⟨as, rd⟩ => ⟨as, PyProof.Rows.Reads.keeps (fun b o e => PySem.W.sortingHeap_old (by rw [← eL]; exact Nat.ne_of_lt (Heap.lt_size e)) (Heap.get?_push_of_some _ e)) rd⟩
          refine wpAny_bind (wpAny_holding (wpAny_call_entry PyProof.Rows.slot_list_sort ⟨_, hoL, rfl⟩ PyProof.Rows.entry_list_sort
            (PySem.W.list_sort_vals (s := { s with heap := h'.push (seqObj "list" acc.toList.toArray 0), toks := tk }) (κ := PySem.W.dataKind (PySem.W.sortingHeap (h'.push (seqObj "list" acc.toList.toArray 0)) L acc.toList) (((kvs.map fun p => D.tup p.1).zip ps).map Prod.snd)) hoL
              (PySem.W.SortsAt.data (s := { s with heap := PySem.W.sortingHeap (h'.push (seqObj "list" acc.toList.toArray 0)) L acc.toList, toks := tk }) (PySem.W.each_map (R := fun v d => ∃ as, Reads (PySem.W.sortingHeap (h'.push (seqObj "list" acc.toList.toArray 0)) L acc.toList) v d as) Prod.snd er') (by rw [hps]; exact hal) (by rw [hps]; exact hk) (fun d hd' => ?_)) (by rw [hal']; exact hz') ⟨_, rfl, ?_⟩)
            (PyProof.Rows.args_list_sort _)))
          · rw [hps] at hd'
            have := hd _ hd'
            show X.A.in1.in1.units + d.depth < cLine
            have : X.A.in1.in1.units = X.A.units + 2 := rfl
            omega
          · have so := PySem.W.sortVals_data (enc := Prod.snd) false e1 er' (by rw [hps]; exact hal)
            obtain ⟨ws', q1, q2⟩ := sr_out so
            obtain ⟨e', he'⟩ := PyProof.Rows.sortedHeap_at (vs := acc.toList) (out := (PySem.W.sortVals (PySem.W.dataKind (PySem.W.sortingHeap (h'.push (seqObj "list" acc.toList.toArray 0)) L acc.toList) (((kvs.map fun p => D.tup p.1).zip ps).map Prod.snd)) false acc.toList acc.toList).toArray) hoL
            have np : H L = none := by rw [← eL]; exact I1.hok.fresh (Nat.le_refl _)
            obtain ⟨rh2, x2⟩ := RelH.newList rh np q1
            have l1 : ws'.length ≤ sizeLine := by rw [q2.length, PySem.W.sortVals_length false rfl, hal']; exact hz'
            refine wpAny_pure ⟨_, rfl, .ref L, upd H L (.lst ws'), I1.laid (t' := tk) (fun b u e => ?_) (Nat.le_of_eq eL) ⟨l1, _, e', q2, he'⟩, rfl, k _ _ _ _ x2 mk_ref rh2 (q _ (rh.fresh np))⟩
            have hb : b < h'.objs.size := Heap.lt_size e
            rw [PyProof.Rows.sortedHeap_old (by rw [← eL]; exact Nat.ne_of_lt hb) (by rw [size_push']; exact Nat.lt_succ_of_lt hb)]
            exact Heap.get?_push_of_some _ e
        | _ => simp [eo] at ei
    | _ => simp [sortItems] at ei
end
end Tw
/-! Dicts whose keys are ints and texts, over data. -/
namespace Tw
open PySem PySem.Spec PyProof.Rows L2
abbrev KeyD := Sum Int (List Nat)
theorem ky_inj : ∀ {a b : KeyD}, ky a = ky b → a = b
  | .inl i, .inl j, h => by simp only [ky, Sum.inl.injEq] at h; rw [h]
  | .inr x, .inr y, h => by simp only [ky, Sum.inr.injEq] at h; rw [tx_inj.mp h]
  | .inl _, .inr _, h => by simp [ky] at h
  | .inr _, .inl _, h => by simp [ky] at h
def valC (kvs : List (KeyD × D)) (k : KeyD) : Option D := (kvs.find? fun p => decide (p.1 = k)).map (·.2)
def putC (kvs : List (KeyD × D)) (k : KeyD) (v : D) : List (KeyD × D) := if kvs.any (fun p => decide (p.1 = k)) then kvs.map (fun p => if p.1 = k then (p.1, v) else p) else kvs ++ [(k, v)]
def kyD : D → Option KeyD
  | .int i => some (.inl i)
  | .str x => some (.inr x)
  | _ => none
theorem kyD_V {K : PySem.W.Frag} {H : Hp} {d : D} {k : KeyD} {v : V} (e : kyD d = some k) (r : Rep K H d v) : v = kV (ky k) := by
  cases d with
  | int i => simp only [kyD, Option.some.injEq] at e; subst e; exact rel_int r
  | str x => simp only [kyD, Option.some.injEq] at e; subst e; exact rel_str r
  | _ => simp [kyD] at e
section
variable {c : Cn} {H : Hp}
theorem KReps.length : ∀ {ds : List (KeyD × D)} {xs : List (Key × V)}, KReps c H ds xs → xs.length = ds.length
  | [], _, r => by rw [show _ = _ from r]; rfl
  | _ :: _, _, ⟨x, q, e, r1, r2⟩ => by rw [e, List.length_cons, List.length_cons, r2.length]
theorem KReps.val (k : KeyD) : ∀ {ds : List (KeyD × D)} {xs : List (Key × V)}, KReps c H ds xs → (valC ds k = none ∧ valV xs (ky k) = none) ∨ ∃ d v, valC ds k = some d ∧ valV xs (ky k) = some v ∧ Rep c.K H d v
  | [], _, r => by rw [show _ = _ from r]; exact .inl ⟨rfl, rfl⟩
  | p :: ps, _, ⟨x, q, e, r1, r2⟩ => by
    subst e
    by_cases z : p.1 = k
    · exact .inr ⟨p.2, x, by simp [valC, List.find?_cons, z], by rw [valV_pos (by rw [z])], r1⟩
    · have zk : ¬ ky p.1 = ky k := fun h => z (ky_inj h)
      have e1 : valC (p :: ps) k = valC ps k := by simp [valC, List.find?_cons, z]
      rw [e1, valV_neg (p := (ky p.1, x)) zk]
      exact KReps.val k r2
theorem KReps.any (k : KeyD) : ∀ {ds : List (KeyD × D)} {xs : List (Key × V)}, KReps c H ds xs → (xs.any fun p => decide (p.1 = ky k)) = ds.any fun p => decide (p.1 = k)
  | [], _, r => by rw [show _ = _ from r]; rfl
  | p :: ps, _, ⟨x, q, e, r1, r2⟩ => by
    subst e
    rw [List.any_cons, List.any_cons, KReps.any k r2]
    congr 1
    rw [Bool.eq_iff_iff, decide_eq_true_eq, decide_eq_true_eq]
    exact ⟨ky_inj, fun h => by rw [h]⟩
theorem KReps.repl {k : KeyD} {d : D} {v : V} (rd : Rep c.K H d v) : ∀ {ds : List (KeyD × D)} {xs : List (Key × V)}, KReps c H ds xs → KReps c H (ds.map fun p => if p.1 = k then (p.1, d) else p) (xs.map fun p => if p.1 = ky k then (p.1, v) else p)
  | [], _, r => by rw [show _ = _ from r]; rfl
  | p :: ps, _, ⟨x, q, e, r1, r2⟩ => by
    subst e
    rw [List.map_cons, List.map_cons]
    by_cases z : p.1 = k
    · rw [if_pos z, if_pos (by rw [z])]
      exact ⟨v, _, rfl, rd, KReps.repl rd r2⟩
    · rw [if_neg z, if_neg (fun h => z (ky_inj h))]
      exact ⟨x, _, rfl, r1, KReps.repl rd r2⟩
theorem KReps.snoc {k : KeyD} {d : D} {v : V} (rd : Rep c.K H d v) : ∀ {ds : List (KeyD × D)} {xs : List (Key × V)}, KReps c H ds xs → KReps c H (ds ++ [(k, d)]) (xs ++ [(ky k, v)])
  | [], _, r => by rw [show _ = _ from r]; exact ⟨v, [], rfl, rd, rfl⟩
  | p :: ps, _, ⟨x, q, e, r1, r2⟩ => by
    subst e
    exact ⟨x, _, rfl, r1, KReps.snoc rd r2⟩
theorem KReps.put {k : KeyD} {d : D} {v : V} {ds : List (KeyD × D)} {xs : List (Key × V)} (r : KReps c H ds xs) (rd : Rep c.K H d v) : KReps c H (putC ds k d) (putK xs (ky k) v) := by
  unfold putC putK
  rw [r.any k]
  split
  · exact KReps.repl rd r
  · exact KReps.snoc rd r
end
theorem putC_len (acc : List (KeyD × D)) (k : KeyD) (v : D) : (putC acc k v).length ≤ acc.length + 1 := by
  unfold putC
  split
  · rw [List.length_map]; omega
  · rw [List.length_append]; simp
theorem valC_snoc (k j : KeyD) (v : D) : ∀ kvs : List (KeyD × D), valC kvs k = none → valC (kvs ++ [(k, v)]) j = if k = j then some v else valC kvs j
  | [], _ => by simp only [valC, List.nil_append, List.find?_cons, List.find?_nil]; split <;> simp_all
  | p :: ps, h => by
    have h1 : ¬ p.1 = k := fun z => by simp [valC, List.find?_cons, z] at h
    have h2 : valC ps k = none := by simpa [valC, List.find?_cons, h1] using h
    have ih := valC_snoc k j v ps h2
    by_cases z : p.1 = j
    · have : ¬ k = j := fun y => h1 (z.trans y.symm)
      simp [valC, List.find?_cons, z, this]
    · have e1 : valC (p :: ps ++ [(k, v)]) j = valC (ps ++ [(k, v)]) j := by simp [valC, List.find?_cons, z]
      have e2 : valC (p :: ps) j = valC ps j := by simp [valC, List.find?_cons, z]
      rw [e1, e2, ih]
theorem valC_any (k : KeyD) : ∀ kvs : List (KeyD × D), kvs.any (fun p => decide (p.1 = k)) = (valC kvs k).isSome
  | [] => rfl
  | p :: ps => by
    rw [List.any_cons, valC_any k ps]
    by_cases z : p.1 = k <;> simp [valC, List.find?_cons, z]
theorem valC_put (k j : KeyD) (v : D) (kvs : List (KeyD × D)) : valC (putC kvs k v) j = if k = j then some v else valC kvs j := by
  unfold putC
  split
  · rename_i h
    rw [valC_any] at h
    have gen : ∀ kvs : List (KeyD × D), valC (kvs.map fun p => if p.1 = k then (p.1, v) else p) j = if k = j then (valC kvs j).map fun _ => v else valC kvs j := by
      intro kvs
      induction kvs with
      | nil => simp [valC]
      | cons p ps ih =>
        rw [List.map_cons]
        by_cases z : p.1 = k
        · rw [if_pos z]
          by_cases y : p.1 = j
          · simp [valC, List.find?_cons, y, show k = j from z.symm.trans y]
          · have e1 : valC ((p.1, v) :: ps.map fun p => if p.1 = k then (p.1, v) else p) j = valC (ps.map fun p => if p.1 = k then (p.1, v) else p) j := by simp [valC, List.find?_cons, y]
            have e2 : valC (p :: ps) j = valC ps j := by simp [valC, List.find?_cons, y]
            rw [e1, e2, ih]
        · rw [if_neg z]
          by_cases y : p.1 = j
          · have : ¬ k = j := fun w => z (y.trans w.symm)
            simp [valC, List.find?_cons, y, this]
          · have e1 : valC (p :: ps.map fun p => if p.1 = k then (p.1, v) else p) j = valC (ps.map fun p => if p.1 = k then (p.1, v) else p) j := by simp [valC, List.find?_cons, y]
            have e2 : valC (p :: ps) j = valC ps j := by simp [valC, List.find?_cons, y]
            rw [e1, e2, ih]
    rw [gen]
    split
    · rename_i z
      subst z
      cases q : valC kvs k with
      | none => rw [q] at h; cases h
      | some _ => rfl
    · rfl
  · rename_i h
    rw [valC_any] at h
    exact valC_snoc k j v kvs (by simpa using h)
/-- the store -/
def stK (c : Cn) : TSt := fun p y z H N => ∃ (xs : List (Key × V)) (kvs : List (KeyD × D)) (k : KeyD) (v : D), H p = some (.dK xs) ∧ KReps c H kvs xs ∧ y = kV (ky k) ∧ Rep c.K H v z ∧ kvs.length < sizeLine ∧ N (upd H p (.dK (putK xs (ky k) z)))
section
variable {X : Cx}
theorem store_k (T : Tb) : StoreOk X (fun _ => .dK []) (stK (cn X T)) := by
  refine ⟨fun H h hb => ?_, ?_⟩
  · exact dk_new (by simp) (beq_eq_false_iff_ne.mpr (Ne.symm (Nat.ne_of_lt hb))) .nil (Heap.DictOf.new h)
  · intro Y e1 e2 e3 e4 pins s σ H p y z u r N E I ry rz h
    obtain ⟨xs, kvs, k, v, e, kr, ey, rv, hz, n⟩ := h
    subst ey
    rw [← e1, ← e2, ← e4]
    exact d_dictSet I e (by rw [kr.length]; exact hz) ry rz fun s' I' => ⟨_, I', n⟩
end
def DkB (p : Pat) (tt : MT) (mk mv : ME) (vs : List Nat) (δ : DSt) (Q : DK) (ds : List D) (ok : DHp → Prop) (h1 : DHp) : Prop := ∃ V : Nat → List (KeyD × D) → DHp → Prop, V 0 [] h1 ∧ ∀ i acc h, V i acc h → ok h ∧
  (i = ds.length → ∀ q, h q = none → Q (.ref q) (put h q (.dct acc))) ∧
  ∀ d, ds[i]? = some d → ∃ δ2, patB p d (dwipe δ vs) = some δ2 ∧ tt δ2 h (fun b h3 => (b = true → mk δ2 h3 (fun y h4 => mv δ2 h4 (fun z h5 => ∃ k, kyD y = some k ∧ acc.length < sizeLine ∧ V (i + 1) (putC acc k z) h5) nox) nox) ∧
    (b = false → V (i + 1) acc h3)) nox
def dDcK (mi : MI) (p : Pat) (tt : MT) (mk mv : ME) (vs : List Nat) : ME := fun δ h Q E => mi δ h (fun ds ok h1 => DkB p tt mk mv vs δ Q ds ok h1) E
def putCs (acc : List (KeyD × D)) (kvs : List (KeyD × D)) : List (KeyD × D) := kvs.foldl (fun a p => putC a p.1 p.2) acc
theorem putCs_len : ∀ (kvs acc : List (KeyD × D)), (putCs acc kvs).length ≤ acc.length + kvs.length
  | [], acc => by simp [putCs]
  | p :: kvs, acc => by
    have h1 := putC_len acc p.1 p.2
    have h2 := putCs_len kvs (putC acc p.1 p.2)
    show (putCs (putC acc p.1 p.2) kvs).length ≤ _
    rw [List.length_cons]
    omega
/-- all values alike: what is in the dict is what was put there -/
theorem valCs (v : D) (j : KeyD) : ∀ (ks : List KeyD) (acc : List (KeyD × D)), (j ∈ ks → valC (putCs acc (ks.map fun k => (k, v))) j = some v) ∧ (j ∉ ks → valC (putCs acc (ks.map fun k => (k, v))) j = valC acc j)
  | [], acc => ⟨fun h => (by cases h), fun _ => rfl⟩
  | k :: ks, acc => by
    have ih := valCs v j ks (putC acc k v)
    have e : valC (putCs acc ((k :: ks).map fun k => (k, v))) j = valC (putCs (putC acc k v) (ks.map fun k => (k, v))) j := rfl
    rw [e]
    refine ⟨fun h => ?_, fun h => ?_⟩
    · by_cases hk : j ∈ ks
      · exact ih.1 hk
      · rw [ih.2 hk, valC_put]
        rcases List.mem_cons.mp h with h | h
        · rw [if_pos h.symm]
        · exact absurd h hk
    · rw [List.mem_cons, not_or] at h
      rw [ih.2 h.2, valC_put, if_neg fun z => h.1 z.symm]
theorem dkB_map {p : Pat} {mk mv : ME} {vs : List Nat} {δ : DSt} {Q : DK} {ds : List D} {ok : DHp → Prop} {h : DHp} (f : D → KeyD) (g : D → D) (hok : ok h) (hz : ds.length ≤ sizeLine)
    (he : ∀ d ∈ ds, ∃ δ2, patB p d (dwipe δ vs) = some δ2 ∧ ∃ y, kyD y = some (f d) ∧ (∀ K : DK, K y h → mk δ2 h K nox) ∧ ∀ K : DK, K (g d) h → mv δ2 h K nox)
    (q : ∀ r, h r = none → Q (.ref r) (put h r (.dct (putCs [] (ds.map fun d => (f d, g d)))))) : DkB p dYes mk mv vs δ Q ds ok h := by
  refine ⟨fun i acc h' => h' = h ∧ i ≤ ds.length ∧ acc = putCs [] ((ds.take i).map fun d => (f d, g d)), ⟨rfl, Nat.zero_le _, rfl⟩, ?_⟩
  rintro i acc h' ⟨rfl, hi, rfl⟩
  refine ⟨hok, fun e r n => ?_, fun d hd => ?_⟩
  · subst e
    rw [List.take_length]
    exact q r n
  · obtain ⟨hlt, hd'⟩ := List.getElem?_eq_some_iff.mp hd
    obtain ⟨δ2, e1, y, ey, e2, e3⟩ := he d (List.mem_of_getElem? hd)
    refine ⟨δ2, e1, fun _ => e2 _ (e3 _ ⟨_, ey, ?_, rfl, hlt, ?_⟩), fun z => by cases z⟩
    · have := putCs_len ((ds.take i).map fun d => (f d, g d)) []
      rw [List.length_map, List.length_take, List.length_nil, Nat.zero_add] at this
      omega
    · rw [← hd', List.take_succ_eq_append_getElem hlt, List.map_append]
      unfold putCs
      rw [List.foldl_append]
      rfl
theorem keeps_dK {H : Hp} {a : Addr} {xs ys : List (Key × V)} (e : H a = some (.dK xs)) : Keeps H (upd H a (.dK ys)) :=
  ⟨fun b zs q => by rw [upd_ne (fun z => by subst z; rw [e] at q; cases q)]; exact q, fun b ob z q => by rw [upd_ne (fun y => by subst y; rw [e] at q; cases q)]; exact q⟩
theorem RelH.hidDK {c : Cn} {h : DHp} {H : Hp} {p : Addr} {xs ys : List (Key × V)} (rh : RelH c H h) (e : H p = some (.dK xs)) (n : h p = none) : RelH c (upd H p (.dK ys)) h := by
  have k : Keeps H (upd H p (.dK ys)) := keeps_dK e
  refine ⟨fun a o ea => ?_, fun q hq => ?_⟩
  · have na : a ≠ p := fun z => by subst z; rw [n] at ea; cases ea
    exact (rh.at_ a o ea).keep k (upd_ne na)
  · obtain ⟨ps, t1, t2, t3⟩ := rh.tabs q hq
    refine ⟨ps, by rw [upd_ne (fun z => by subst z; rw [e] at t1; cases t1)]; exact t1, t2, fun pos cv hc => ?_⟩
    obtain ⟨b, e1, e2⟩ := t3 pos cv hc
    exact ⟨b, e1, by rw [upd_ne fun y => by subst y; rw [e] at e2; exact noCode_dK _ _ (Option.some.inj e2)]; exact e2⟩
section
variable {X : Cx} {T : Tb} {W : WX} {kx vx tg iter : Expr} {ifs : List Expr} {scope : Scope} {own : List (Str × Nat)} {pos : Pos} {mi : MI} {p : Pat} {tt : MT} {mk mv : ME}
theorem up_dcK (hv : ∀ i ∈ patV p, i ∈ own.map (·.2)) : ∀ σ H Q, up (cn X T) W (dDcK mi p tt mk mv (own.map (·.2))) σ H Q →
    tDcG (fun _ => .dK []) (stK (cn X T)) (upI (cn X T) W mi) (patG X.K p) (upT (cn X T) WF tt) (up (cn X T) WF mk) (up (cn X T) WF mv) (own.map (·.2)) σ H Q := by
  rintro σ H Q ⟨δ, h, Q', E', rs, rh, q, k, kx⟩
  refine ⟨δ, h, _, _, rs, rh, q, fun J ds ok H1 h1 x1 rh1 io q1 L nL sL => ?_, kx⟩
  obtain ⟨V, v0, turn⟩ := q1
  obtain ⟨rh1', x1'⟩ := rh1.hid (u := .dK []) nL
  have nL1 : h1 L = none := rh1.fresh nL
  -- what holds at each turn
  let S : Nat → Hp → Prop := fun i H' => ∃ acc xs h', (∀ a o, a ≠ L → h1 a = none → H1 a = some o → (∀ ps, o ≠ .tbl ps) → H' a = some o ∧ h' a = none) ∧ Keeps H1 H' ∧ RelH (cn X T) H' h' ∧ h' L = none ∧ (H' L = some (.dK xs) ∧ KReps (cn X T) H' acc xs) ∧ V i acc h'
  refine ⟨fun i mm H' => mm = ds.length - i ∧ i ≤ ds.length ∧ S i H', ⟨ds.length, rfl, Nat.zero_le _, [], [], h1, fun a o na n e nt => ⟨by rw [upd_ne na]; exact e, n⟩, keeps_new nL, rh1', nL1, ⟨upd_same, rfl⟩, v0⟩, ?_⟩
  rintro i mm H2 ⟨em, hi, acc, es, h2, x2, k2, rh2, n2, ⟨d2, b2⟩, v2⟩
  obtain ⟨ok2, fin, step⟩ := turn i acc h2 v2
  by_cases hlt : i < ds.length
  · refine .inr ⟨io.go i H2 h2 k2 rh2 ok2 hlt, S (i + 1), fun H' z => ⟨ds.length - (i + 1), by omega, rfl, hlt, z⟩, fun x H3 y => ?_⟩
    have hd : ds[i]? = some ds[i] := List.getElem?_eq_getElem hlt
    obtain ⟨r3, rh3, x3⟩ := io.yld i H2 x H3 h2 _ k2 rh2 ok2 hd y
    obtain ⟨δ2, hp, q3⟩ := step _ hd
    have kH : Keeps H H3 := by
      have a := x1.keeps rh
      have b := x3.keeps rh2
      exact ⟨fun c xs e => b.1 _ _ (k2.1 _ _ (a.1 _ _ e)), fun c o z e => b.2 _ _ _ (k2.2 _ _ _ (a.2 _ _ _ e))⟩
    refine pat_ok (c := cn X T) p _ x _ δ2 _ _ hp r3 ((rs.keep kH).wipe _) fun σ2 rs2 w2 => ⟨?_, ?_⟩
    · rw [w2 _ hv]
      have ww : ∀ (l vs : List Nat), (∀ i ∈ l, i ∈ vs) → L2.wipe (L2.wipe σ l) vs = L2.wipe σ vs := by
        intro l
        induction l with
        | nil => intro vs _; rfl
        | cons a l ih =>
          intro vs hl
          show L2.wipe ((L2.wipe σ l).set a none) vs = _
          rw [wipe_set _ _ vs (hl a (by simp)), ih vs fun i hi => hl i (by simp [hi])]
      exact ww _ _ fun i hi => hi
    · have nt : ∀ ps, HO.dK es ≠ .tbl ps := fun ps z => by cases z
      have e3 : H3 L = some (.dK es) := x3.same n2 d2 nt
      have d3 := KReps.keep (x3.keeps rh2) _ _ b2
      refine ⟨δ2, h2, _, nox, rs2, rh3, q3, fun b H4 h4 x4 rh4 q4 => ?_, fun _ _ _ _ _ z => z⟩
      have e4 : H4 L = some (.dK es) := x4.same n2 e3 nt
      have d4 := KReps.keep (x4.keeps rh3) _ _ d3
      have n4 : h4 L = none := (x4 L _ n2 e3 (fun _ z => by cases z)).2
      have x24 := x3.trans x4
      have thr : ∀ {H' : Hp} {h' : DHp}, Ext h2 h' H2 H' → ∀ a o, a ≠ L → h1 a = none → H1 a = some o → (∀ ps, o ≠ .tbl ps) → H' a = some o ∧ h' a = none := fun {H' h'} xx a o na n e nt => by
        obtain ⟨e1, m1⟩ := x2 a o na n e nt
        exact xx a o m1 e1 nt
      have kpt : ∀ {H' : Hp} {h' : DHp}, Ext h2 h' H2 H' → Keeps H1 H' := fun {H' h'} xx => by
        have b := xx.keeps rh2
        exact ⟨fun c xs e => b.1 _ _ (k2.1 _ _ e), fun c o z e => b.2 _ _ _ (k2.2 _ _ _ e)⟩
      cases b with
      | false => exact ⟨acc, es, h4, thr x24, kpt x24, rh4, n4, ⟨e4, d4⟩, q4.2 rfl⟩
      | true =>
        refine ⟨δ2, h4, _, nox, rs2.keep (x4.keeps rh3), rh4, q4.1 rfl, fun y dy H5 h5 x5 r5 rh5 q5 => ?_, fun _ _ _ _ _ z => z⟩
        have e5 : H5 L = some (.dK es) := x5.same n4 e4 nt
        have d5 := KReps.keep (x5.keeps rh4) _ _ d4
        have n5 : h5 L = none := (x5 L _ n4 e4 (fun _ z => by cases z)).2
        have x25 := x24.trans x5
        refine ⟨δ2, h5, _, nox, (rs2.keep (x4.keeps rh3)).keep (x5.keeps rh4), rh5, q5, fun z dz H6 h6 x6 r6 rh6 q6 => ?_, fun _ _ _ _ _ z => z⟩
        have e6 : H6 L = some (.dK es) := x6.same n5 e5 nt
        have d6 := KReps.keep (x6.keeps rh5) _ _ d5
        have n6 : h6 L = none := (x6 L _ n5 e5 (fun _ z => by cases z)).2
        have x26 := x25.trans x6
        obtain ⟨key, ek, hz, q6⟩ := q6
        have k6 : Keeps H6 (upd H6 L (.dK (putK es (ky key) z))) := keeps_dK e6
        refine ⟨es, acc, key, dz, e6, d6, kyD_V ek r5, r6, hz, putC acc key dz, _, h6, fun a o na n e nt => ?_, ?_, rh6.hidDK e6 n6, n6, ⟨upd_same, KReps.keep k6 _ _ (d6.put r6)⟩, q6⟩
        · obtain ⟨e1, m1⟩ := thr x26 a o na n e nt
          exact ⟨by rw [upd_ne na]; exact e1, m1⟩
        · have b := kpt x26
          exact ⟨fun c xs e => k6.1 _ _ (b.1 _ _ e), fun c o z e => k6.2 _ _ _ (b.2 _ _ _ e)⟩
  · have hi3 : i = ds.length := by omega
    subst hi3
    refine .inl ⟨io.stop H2 h2 k2 rh2 ok2, ?_⟩
    have rh3 := rh2.show_ (p := L) (o := .dct acc) ⟨es, d2, b2⟩
    refine k _ _ H2 (put h2 L (.dct acc)) (fun a o n e nt => ?_) mk_ref rh3 (fin rfl L n2)
    obtain ⟨e1, m1⟩ := x1 a o n e nt
    have na : a ≠ L := fun z => by subst z; rw [nL] at e1; cases e1
    obtain ⟨e2', m2⟩ := x2 a o na m1 e1 nt
    exact ⟨e2', by rw [put_ne na]; exact m2⟩
theorem de_dcK (hc : X.calm = true) (hN : X.N.Nodup) (hi : DI X T W tg iter mi) (ok : BlkOk X.N X.env.scope scope own) (hv : ∀ i ∈ patV p, i ∈ own.map (·.2))
    (hg : BlkP X scope fun Y => PG Y tg (patG X.K p)) (ht : BlkP X scope fun Y => DTs Y T ifs tt) (hk : BlkP X scope fun Y => DE Y T WF kx mk) (he : BlkP X scope fun Y => DE Y T WF vx mv) (hs : ∀ x, foldedSetIterable iter X.env x = pure x := by intro _; rfl) :
    DE X T W (.DictComp kx vx [⟨tg, iter, ifs, 0⟩] scope pos) (dDcK mi p tt mk mv (own.map (·.2))) :=
  pe_imp (pe_dcG (X := X) (tk := up (cn X T) WF mk) (tv := up (cn X T) WF mv) (tt := upT (cn X T) WF tt) (store_k T) hc hN hi ok hg (fun s H C cl fp => (ht s H C cl fp).t) hk he hs) (up_dcK hv)
end
end Tw
/-! in, not in; the module's dicts; texts walked. -/
namespace Tw
open PySem PySem.Spec PyProof.Rows L2
/-- values without parts -/
def flatD : D → Bool
  | .non => true
  | .bl _ => true
  | .int _ => true
  | .str _ => true
  | _ => false
def eqFD : D → D → Bool
  | .non, .non => true
  | .bl a, .bl b => a == b
  | .bl a, .int b => (if a then 1 else 0) == b
  | .int a, .bl b => a == (if b then 1 else 0)
  | .int a, .int b => a == b
  | .str a, .str b => a == b
  | _, _ => false
theorem flat_V {K : PySem.W.Frag} {H : Hp} {d : D} {v : V} (r : Rep K H d v) (f : flatD d = true) : flatV v = true := by
  cases d <;> first
    | exact absurd f Bool.false_ne_true
    | (simp only [Rep] at r; subst r; rfl)
theorem eqF_V {K : PySem.W.Frag} {H : Hp} {d e : D} {v u : V} (r : Rep K H d v) (q : Rep K H e u) (f : flatD d = true) (g : flatD e = true) : eqV v u = eqFD d e := by
  cases d <;> cases e <;> first
    | exact absurd f Bool.false_ne_true
    | exact absurd g Bool.false_ne_true
    | (simp only [Rep] at r q; subst r q; first | rfl | (unfold eqV eqFD; rw [Bool.eq_iff_iff]; simp [-Str.mk.injEq]; try exact tx_inj))
theorem flats_V {K : PySem.W.Frag} {H : Hp} {x : D} {v : V} (r : Rep K H x v) (f : flatD x = true) : ∀ {ys : List D} {vs : List V}, Reps K H ys vs → ys.all flatD = true → vs.all flatV = true ∧ (vs.any fun y => eqV y v) = ys.any fun y => eqFD y x
  | [], _, q, _ => by simp only [Reps] at q; subst q; exact ⟨rfl, rfl⟩
  | y :: ys, _, q, g => by
    simp only [Reps] at q
    obtain ⟨w, z, e, q1, q2⟩ := q
    subst e
    rw [List.all_cons, Bool.and_eq_true] at g
    obtain ⟨h1, h2⟩ := flats_V r f q2 g.2
    rw [List.all_cons, List.any_cons, List.any_cons, h1, h2, flat_V q1 g.1, eqF_V q1 r g.1 f]
    exact ⟨rfl, rfl⟩
/-- x among ys -/
def memD (x : D) (ys : List D) (h : DHp) (R : Bool → Prop) : Prop := (flatD x = true ∧ ys.all flatD = true ∧ R (ys.any fun y => eqFD y x)) ∨
  ∃ p ps, Py h x p ∧ PyA h ys ps ∧ SeqAt.shaped p = true ∧ SeqAt.shaped (.list ps) = true ∧ SeqAt.shaped (.tuple ps) = true ∧ R (ps.any fun z => PyData.eqv z p)
/-- x in a dict, None perhaps -/
def inC (neg : Bool) (x : D) (kvs : List (KeyD × D)) (h : DHp) (Q : DK) : Prop := match x with
  | .int i => Q (.bl (xor neg (valC kvs (.inl i)).isSome)) h
  | .str z => Q (.bl (xor neg (valC kvs (.inr z)).isSome)) h
  | .non => Q (.bl (xor neg false)) h
  | _ => False
def dIn (neg : Bool) (x y : D) (h : DHp) (Q : DK) : Prop := match y with
  | .str b => (match x with
    | .str [c] => Q (.bl (xor neg (decide (c ∈ b)))) h
    | .str a => Q (.bl (xor neg (subT a b))) h
    | _ => False)
  | .tup ys => memD x ys h fun b => Q (.bl (xor neg b)) h
  | .ref a => (match h a with
    | some (.lst ys) => memD x ys h fun b => Q (.bl (xor neg b)) h
    | some (.dct kvs) => inC neg x kvs h Q
    | _ => False)
  | _ => False
section
variable {X : Cx} {T : Tb}
theorem in_tupD (hu : X.A.units + 65 < cLine) (neg : Bool) : OpR X (compareOp (if neg then .NotIn else .In)) (fun x y H Q => ∃ d ds, Dp X.K H x d ∧ Dp X.K H y (.tuple ds) ∧ SeqAt.shaped d = true ∧ SeqAt.shaped (.tuple ds) = true ∧ Q (.bl (xor neg (ds.any fun z => PyData.eqv z d))) H) := by
  intro pins s σ H x y v u Q I rx ry h
  obtain ⟨d, ds, hd, he, sd, se, q⟩ := h
  obtain ⟨as, r1⟩ := Dp.reads I d x v hd rx
  obtain ⟨bs, r2⟩ := Dp.reads I (.tuple ds) y u he ry
  cases neg with
  | false => exact SeqAt.in_tuple_reads r2 r1 (SeqAt.canLay_of_shaped se) (SeqAt.canLay_of_shaped sd) (room_in_shaped sd hu) ⟨.bl _, H, I, rfl, by simpa using q⟩
  | true => exact SeqAt.notIn_tuple_reads r2 r1 (SeqAt.canLay_of_shaped se) (SeqAt.canLay_of_shaped sd) (room_in_shaped sd hu) ⟨.bl _, H, I, rfl, by simpa using q⟩
theorem in_gen (hu : X.A.units + 65 < cLine) (neg : Bool) : OpD X T (compareOp (if neg then .NotIn else .In)) (dIn neg) := by
  intro pins s σ H x y v u Q I rx ry hh
  obtain ⟨dx, dy, h, Q', r1, r2, rh, q, k⟩ := hh
  have flat : ∀ {p : Addr} {ys : List D} {vs : List V} {b : Bool}, y = .ref p → (SqL X.K H p vs ∨ SqT X.K H p vs) → Reps X.K H ys vs → flatD dx = true → ys.all flatD = true → Q' (.bl (xor neg (ys.any fun y => eqFD y dx))) h → wpAny (model X.prog X.w) X.A (compareOp (if neg then .NotIn else .In) v u) (EP X pins σ Q) X.xe s := by
    intro p ys vs b ey sq rr f g q
    obtain ⟨h1, h2⟩ := flats_V r1 f rr g
    cases neg with
    | false => exact op_in_seq pins s σ H x y v u Q I rx ry ⟨p, vs, ey, sq, flat_V r1 f, h1, by unfold inV; rw [h2]; exact k.here mk_bl rh (by simpa using q)⟩
    | true => exact op_notIn_seq pins s σ H x y v u Q I rx ry ⟨p, vs, ey, sq, flat_V r1 f, h1, by unfold inV; rw [h2]; exact k.here mk_bl rh (by simpa using q)⟩
  cases dy with
  | str b =>
    have sub : ∀ a, dx = .str a → Q' (.bl (xor neg (subT a b))) h → wpAny (model X.prog X.w) X.A (compareOp (if neg then .NotIn else .In) v u) (EP X pins σ Q) X.xe s := by
      rintro a rfl q
      cases neg with
      | false => exact op_in_str pins s σ H x y v u Q I rx ry ⟨_, _, rel_str r1, rel_str r2, k.here mk_bl rh (by simpa [subT] using q)⟩
      | true => exact op_notin_str pins s σ H x y v u Q I rx ry ⟨_, _, rel_str r1, rel_str r2, k.here mk_bl rh (by simpa [subT] using q)⟩
    cases dx with
    | str a =>
      match a, r1, q, sub with
      | [c], r1, q, _ =>
        have q : Q' (.bl (xor neg (decide (c ∈ b)))) h := q
        cases neg with
        | false => exact op_in_sign pins s σ H x y v u Q I rx ry ⟨c, _, rel_str r1, rel_str r2, k.here mk_bl rh (by simpa using q)⟩
        | true => exact op_notIn_sign pins s σ H x y v u Q I rx ry ⟨c, _, rel_str r1, rel_str r2, k.here mk_bl rh (by simpa using q)⟩
      | [], r1, q, sub => exact sub _ rfl q
      | _ :: _ :: _, r1, q, sub => exact sub _ rfl q
    | _ => exact False.elim q
  | tup ys =>
    obtain ⟨p, vs, ey, t, rr⟩ := rel_tup r2
    rcases (show memD dx ys h fun b => Q' (.bl (xor neg b)) h from q) with ⟨f, g, q⟩ | ⟨pp, ps, y1, y2, s1, s2, s3, q⟩
    · exact flat (b := true) ey (.inr t.sqt) rr f g q
    · exact in_tupD hu neg pins s σ H x y v u Q I rx ry ⟨pp, ps, y1.dp rh _ _ _ r1, (Py.tup y2).dp rh _ _ _ r2, s1, s3, k.here mk_bl rh q⟩
  | ref a =>
    cases e : h a with
    | none => simp [dIn, e] at q
    | some o =>
      cases o with
      | lst ys =>
        simp only [dIn, e] at q
        obtain ⟨vs, sq, rr, _⟩ := sql_lst rh e
        rcases q with ⟨f, g, q⟩ | ⟨pp, ps, y1, y2, s1, s2, s3, q⟩
        · exact flat (b := true) (rel_ref r2) (.inl sq) rr f g q
        · cases neg with
          | false => exact op_inD hu pins s σ H x y v u Q I rx ry ⟨pp, ps, y1.dp rh _ _ _ r1, (Py.lst e y2).dp rh _ _ _ r2, s1, s2, k.here mk_bl rh (by simpa using q)⟩
          | true => exact op_notInD hu pins s σ H x y v u Q I rx ry ⟨pp, ps, y1.dp rh _ _ _ r1, (Py.lst e y2).dp rh _ _ _ r2, s1, s2, k.here mk_bl rh (by simpa using q)⟩
      | dct kvs =>
        simp only [dIn, e] at q
        obtain ⟨vs, e1, kr⟩ := rh.at_ _ _ e
        have ey := rel_ref r2
        subst ey
        cases (show u = Value.ref a from ry)
        have at_ : ∀ key : KeyD, kyD dx = some key → Q' (.bl (xor neg (valC kvs key).isSome)) h → wpAny (model X.prog X.w) X.A (compareOp (if neg then .NotIn else .In) v (.ref a)) (EP X pins σ Q) X.xe s := by
          intro key ek q
          have ex := kyD_V ek r1
          subst ex
          have g : DGet H a (kV (ky key)) (valV vs (ky key)) := .inl ⟨vs, ky key, .inl e1, rfl, rfl⟩
          have eb : (valV vs (ky key)).isSome = (valC kvs key).isSome := by
            rcases kr.val key with ⟨z1, z2⟩ | ⟨d, w, z1, z2, _⟩
            · rw [z1, z2]; rfl
            · rw [z1, z2]; rfl
          cases neg with
          | false => exact d_in (by omega) I g rx fun s' I' => ⟨.bl _, H, I', rfl, by rw [eb]; exact k.here mk_bl rh (by simpa using q)⟩
          | true => exact d_notIn (by omega) I g rx fun s' I' => ⟨.bl _, H, I', rfl, by rw [eb]; exact k.here mk_bl rh (by simpa using q)⟩
        cases dx with
        | int i => exact at_ _ rfl q
        | str z => exact at_ _ rfl q
        | non =>
          have ex := rel_non r1
          subst ex
          cases (show v = Value.none from rx)
          cases neg with
          | false => exact d_inNone I (.inl e1) fun s' I' => ⟨.bl false, H, I', rfl, k.here mk_bl rh (by simpa [inC] using q)⟩
          | true => exact d_notInNone I (.inl e1) fun s' I' => ⟨.bl true, H, I', rfl, k.here mk_bl rh (by simpa [inC] using q)⟩
        | _ => exact False.elim q
      | _ => simp [dIn, e] at q
  | _ => exact False.elim q
theorem or_in (hu : X.A.units + 65 < cLine) : OpD X T (compareOp .In) (dIn false) := in_gen hu false
theorem or_notIn (hu : X.A.units + 65 < cLine) : OpD X T (compareOp .NotIn) (dIn true) := in_gen hu true
/-! a dict of the module with texts for keys -/
/-- what it holds -/
structure KD (X : Cx) (a : Addr) (f : List Nat → Option D) : Prop where
  dct : ∃ es n, KDict X.K X.w a es n
  at_ : ∀ x, (f x = none ∧ PySem.W.nsIn X.K a (tx x) = some none) ∨ ∃ d v u, f x = some d ∧ PySem.W.nsIn X.K a (tx x) = some (some u) ∧ RelV v u ∧ ∀ H, Rep X.K H d v
def dInK (a : Addr) (f : List Nat → Option D) (neg : Bool) (x y : D) (h : DHp) (Q : DK) : Prop := match x with
  | .str z => y = .ref a ∧ Q (.bl (xor neg (f z).isSome)) h
  | _ => False
theorem or_inK {a : Addr} {f : List Nat → Option D} (c : KD X a f) : OpD X T (compareOp .In) (dInK a f false) := by
  intro pins s σ H x y v u Q I rx ry hh
  obtain ⟨dx, dy, h, Q', r1, r2, rh, q, k⟩ := hh
  obtain ⟨es, n, kd⟩ := c.dct
  cases dx with
  | str z =>
    obtain ⟨rfl, q⟩ := q
    have e : ∃ r, PySem.W.nsIn X.K a (tx z) = some r ∧ r.isSome = (f z).isSome := by
      rcases c.at_ z with ⟨h1, h2⟩ | ⟨d, _, _, h1, h2, _⟩
      · exact ⟨_, h2, by rw [h1]; rfl⟩
      · exact ⟨_, h2, by rw [h1]; rfl⟩
    obtain ⟨r, e1, e2⟩ := e
    exact op_in_kd kd pins s σ H x y v u Q I rx ry ⟨tx z, r, rel_str r1, rel_ref r2, e1, by rw [e2]; exact k.here mk_bl rh (by simpa using q)⟩
  | _ => exact False.elim q
theorem or_notInK {a : Addr} {f : List Nat → Option D} (c : KD X a f) : OpD X T (compareOp .NotIn) (dInK a f true) := by
  intro pins s σ H x y v u Q I rx ry hh
  obtain ⟨dx, dy, h, Q', r1, r2, rh, q, k⟩ := hh
  obtain ⟨es, n, kd⟩ := c.dct
  cases dx with
  | str z =>
    obtain ⟨rfl, q⟩ := q
    have e : ∃ r, PySem.W.nsIn X.K a (tx z) = some r ∧ r.isSome = (f z).isSome := by
      rcases c.at_ z with ⟨h1, h2⟩ | ⟨d, _, _, h1, h2, _⟩
      · exact ⟨_, h2, by rw [h1]; rfl⟩
      · exact ⟨_, h2, by rw [h1]; rfl⟩
    obtain ⟨r, e1, e2⟩ := e
    exact op_notIn_kd kd pins s σ H x y v u Q I rx ry ⟨tx z, r, rel_str r1, rel_ref r2, e1, by rw [e2]; exact k.here mk_bl rh (by simpa using q)⟩
  | _ => exact False.elim q
def dIxK (a : Addr) (f : List Nat → Option D) (x y : D) (h : DHp) (Q : DK) : Prop := match y with
  | .str z => x = .ref a ∧ ∃ d, f z = some d ∧ Q d h
  | _ => False
theorem ix_K {a : Addr} {f : List Nat → Option D} (c : KD X a f) : IxD X T (dIxK a f) := by
  intro value slice pins s σ H x y v u Q I rx ry hh hs
  obtain ⟨dx, dy, h, Q', r1, r2, rh, q, k⟩ := hh
  obtain ⟨es, n, kd⟩ := c.dct
  cases dy with
  | str z =>
    obtain ⟨rfl, d, ed, q⟩ := q
    rcases c.at_ z with ⟨h1, _⟩ | ⟨d', w, u0, h1, h2, h3, h4⟩
    · rw [h1] at ed; cases ed
    · rw [h1] at ed
      cases ed
      have ty : s.TypeIs v "dict" := by
        have ex := rel_ref r1
        subst ex
        obtain rfl : v = Value.ref a := rx
        exact kd_type kd I
      exact tail_any ty slot_dict_getitem.lookup (op_item_kd kd pins s σ H x y v u Q I rx ry ⟨tx z, u0, w, rel_ref r1, rel_str r2, h2, h3, k.here (h4 H) rh q⟩) hs
  | _ => exact False.elim q
/-! a text walked -/
def dIStr (m : ME) : MI := fun δ h R E => m δ h (fun d h1 => match d with | .str x => R (x.map fun c => .str [c]) (fun _ => True) h1 | _ => False) E
theorem di_str {W : WX} {tg e : Expr} {m : ME} (he : DE X T W e m) : DI X T W tg e (dIStr m) := by
  refine pi_imp (pi_str he) ?_
  rintro σ H R ⟨δ, h, R', E', rs, rh, q, k, kx⟩
  refine ⟨δ, h, _, _, rs, rh, q, fun v d H1 h1 x1 r1 rh1 q1 => ?_, kx⟩
  cases d with
  | str x =>
    have hz : ∀ i : Nat, (tx x).cps[i]? = x[i]? := fun i => by simp [tx]
    refine ⟨tx x, rel_str r1, k _ _ _ H1 h1 x1 rh1 ⟨fun i H h kp rh ok hi => ?_, fun i H y H' h d kp rh ok hd yl => ?_, fun H h kp rh ok => ?_⟩ q1⟩
    · show i < (tx x).cps.size
      simpa [tx] using hi
    · obtain ⟨eH, c, ec, ey⟩ := yl
      subst eH
      rw [hz] at ec
      rw [List.getElem?_map, ec] at hd
      cases hd
      subst ey
      exact ⟨by simp only [Rep], rh, Ext.refl⟩
    · show (tx x).cps.size ≤ _
      simp [tx]
  | _ => exact False.elim q1
/-- the items of a list, of a tuple, of a text -/
def dISeq (m : ME) : MI := fun δ h R E => m δ h (fun d h1 => match d with
  | .str x => R (x.map fun c => .str [c]) (fun _ => True) h1
  | .tup ds => R ds (fun _ => True) h1
  | .ref a => (match h1 a with
    | some (.lst ds) => R ds (fun h => h a = some (.lst ds)) h1
    | _ => False)
  | _ => False) E
theorem it_list {H0 : Hp} {a : Addr} {ds : List D} : ItOk (cn X T) H0 (Itl X.K a) ds (fun h => h a = some (.lst ds)) := by
  refine ⟨fun i H h _ rh ok hi => ?_, fun i H x H' h d _ rh ok hd y => ?_, fun H h _ rh ok => ?_⟩
  · obtain ⟨ys, b1, b2⟩ := rh.at_ _ _ ok
    have hl := b2.length
    exact ⟨ys, ys[i], .inl (.inl b1), by rw [List.getElem?_eq_getElem (by omega)]⟩
  · obtain ⟨ys, b1, b2⟩ := rh.at_ _ _ ok
    obtain ⟨v, c1, c2⟩ := b2.get hd
    obtain ⟨eH, y2⟩ := y
    subst eH
    have := y2 ys (.inl (.inl b1))
    rw [c1] at this
    cases this
    exact ⟨c2, rh, Ext.refl⟩
  · obtain ⟨ys, b1, b2⟩ := rh.at_ _ _ ok
    exact ⟨ys, .inl (.inl b1), by rw [b2.length]; exact Nat.le_refl _⟩
theorem it_tup {H0 : Hp} {a : Addr} {xs : List V} {ds : List D} (t : Tp X.K H0 a xs) (r : Reps X.K H0 ds xs) : ItOk (cn X T) H0 (Itt X.K a) ds (fun _ => True) := by
  refine ⟨fun i H h kp rh ok hi => ?_, fun i H x H' h d kp rh ok hd y => ?_, fun H h kp rh ok => ?_⟩
  · have hl := r.length
    exact ⟨xs, xs[i], (t.keep kp).sqt, by rw [List.getElem?_eq_getElem (by omega)]⟩
  · obtain ⟨v, c1, c2⟩ := (Reps.keep kp _ _ r).get hd
    obtain ⟨eH, y2⟩ := y
    subst eH
    have := y2 xs (t.keep kp).sqt
    rw [c1] at this
    cases this
    exact ⟨c2, rh, Ext.refl⟩
  · exact ⟨xs, (t.keep kp).sqt, by rw [r.length]; exact Nat.le_refl _⟩
theorem it_str {H0 : Hp} {x : List Nat} : ItOk (cn X T) H0 (Its (tx x)) (x.map fun c => .str [c]) (fun _ => True) := by
  have hz : ∀ i : Nat, (tx x).cps[i]? = x[i]? := fun i => by simp [tx]
  refine ⟨fun i H h kp rh ok hi => ?_, fun i H y H' h d kp rh ok hd yl => ?_, fun H h kp rh ok => ?_⟩
  · show i < (tx x).cps.size
    simpa [tx] using hi
  · obtain ⟨eH, c, ec, ey⟩ := yl
    subst eH
    rw [hz] at ec
    rw [List.getElem?_map, ec] at hd
    cases hd
    subst ey
    exact ⟨by simp only [Rep], rh, Ext.refl⟩
  · show (tx x).cps.size ≤ _
    simp [tx]
theorem di_seq {W : WX} {tg e : Expr} {m : ME} (he : DE X T W e m) : DI X T W tg e (dISeq m) := by
  refine ⟨fun pins s σ H R I hh => ?_⟩
  obtain ⟨δ, h, R', E', rs, rh, q, k, kx⟩ := hh
  let Z : D → DHp → Prop := fun d h1 => match d with
    | .str x => R' (x.map fun c => .str [c]) (fun _ => True) h1
    | .tup ds => R' ds (fun _ => True) h1
    | .ref a => (match h1 a with
      | some (.lst ds) => R' ds (fun h => h a = some (.lst ds)) h1
      | _ => False)
    | _ => False
  refine thn (he.run pins s σ H (fun v H1 => ∃ d h1, Ext h h1 H H1 ∧ Rep X.K H1 d v ∧ RelH (cn X T) H1 h1 ∧ Z d h1) I ⟨δ, h, Z, E', rs, rh, q, fun v d H1 h1 x1 r1 rh1 z => ⟨d, h1, x1, r1, rh1, z⟩, kx⟩) fun u s1 ⟨v, H1, I1, rv, d, h1, x1, r1, rh1, z⟩ => ?_
  cases d with
  | str x =>
    have e := rel_str r1
    subst e
    obtain ⟨t, rfl⟩ := rv
    have q1 := k _ _ _ H1 h1 x1 rh1 it_str z
    cases ha : (tx x).cps.all (· < 128)
    · exact wpAny_pyIter_wide ha (pi_one (tk := s1.toks) I1 _ (turn_str _ (tx x) t "str_iterator" (.inr rfl)) ⟨_, Heap.get?_push_size _ rfl, rfl, rfl⟩ q1)
    · exact wpAny_pyIter_ascii ha (pi_one (tk := s1.toks) I1 _ (turn_str _ (tx x) t "str_ascii_iterator" (.inl rfl)) ⟨_, Heap.get?_push_size _ rfl, rfl, rfl⟩ q1)
  | tup ds =>
    obtain ⟨a, xs, e, t, rr⟩ := rel_tup r1
    subst e
    obtain rfl : u = Value.ref a := rv
    obtain ⟨its, rv2, p, hz⟩ := I1.tuple t.sqt
    exact wpAny_pyIter_tuple (show s1.heap.IsTuple a its.toArray from p) (pi_one (tk := s1.toks) I1 _ (turn_tuple a _) ⟨_, Heap.get?_push_size _ rfl, rfl, rfl⟩ (k _ _ _ H1 h1 x1 rh1 (it_tup t rr) z))
  | ref a =>
    have e := rel_ref r1
    subst e
    obtain rfl : u = Value.ref a := rv
    cases eo : h1 a with
    | none => simp [Z, eo] at z
    | some o =>
      cases o with
      | lst ds =>
        simp only [Z, eo] at z
        obtain ⟨xs, sq, rr, eH⟩ := sql_lst rh1 eo
        obtain ⟨its, rv2, p, hz⟩ := I1.list sq
        exact wpAny_pyIter_list p.isList (pi_one (tk := s1.toks) I1 _ (turn_list a _) ⟨_, Heap.get?_push_size _ rfl, rfl, rfl⟩ (k _ _ _ H1 h1 x1 rh1 it_list z))
      | _ => simp [Z, eo] at z
  | _ => exact False.elim z
end
end Tw
/-! Several except clauses with names; raise; over data. -/
namespace Tw
open PySem PySem.Spec PyProof.Rows L2
/-- behind a suite its name is gone -/
def goneE (D : Ends) (i : Nat) : Ends := { nx := fun τ K => D.nx (τ.set i none) K, rt := D.rt, bk := fun τ K => D.bk (τ.set i none) K, ct := fun τ K => D.ct (τ.set i none) K }
/-- a clause: the class, the name's slot, the suite -/
structure Cl where
  c : Value
  i : Nat
  ts : Addr → Value → Option Addr → TS
def wCls (K : PySem.W.Frag) (Wout : WX) (D : Ends) : List Cl → WX
  | [] => Wout
  | r :: rs => fun cls d σ H => ∃ b, PySem.W.exmOne K cls r.c = some b ∧ match b with
    | true => ∀ a, H a = none → r.ts a cls d (goneE D r.i) (σ.set r.i (some (.ref a))) H
    | false => wCls K Wout D rs cls d σ H
inductive ClsOk (X : Cx) : List ExceptHandler → List Cl → Prop
  | nil : ClsOk X [] []
  | cons {x n : Str} {r : Cl} {st : Stmt} {suite : List Stmt} {p1 p2 : Pos} {hds : List ExceptHandler} {rs : List Cl} (hi : X.N[r.i]? = some n) (hl : X.env.kindOf n = some .local) (hc : Names X x r.c)
      (hs : ∀ (a : Addr) (oe : Obj) (cls : Value) (d : Option Addr) (pn : List (Addr × Obj)), Zc cls d oe → (∃ vs, oe.data = .fields vs) → PSs (X.suite a ((a, oe) :: pn)) (st :: suite) (r.ts a cls d)) (t : ClsOk X hds rs) :
      ClsOk X (.ExceptHandler (some (.Name x p1)) (some n) (st :: suite) p2 :: hds) (r :: rs)
section
variable {X : Cx}
/-- how an ending of the suite ends the try, once the name is gone -/
theorem suite_ends {pins : List (Addr × Obj)} {a : Addr} {oe : Obj} {i : Nat} {n : Str} {pos : Pos} {D : Ends} {f : Flow} {s : Shared} (ok : X.Ok) (nod : X.N.Nodup) (hi : X.N[i]? = some n) (hl : X.env.kindOf n = some .local)
    (h : SP (X.suite a ((a, oe) :: (X.pn ++ pins))) [] (goneE D i) f s) : wpAny (model X.prog X.w) X.A (do bindName X.env n .none; unbindBehindTheSuite X.env n pos) (fun _ s' => SP X pins D f s') X.xe s := by
  cases f with
  | ret u => obtain ⟨v, τ, K, S, r, q⟩ := h; exact gone_ok (S.unsuite ok) nod hi hl fun s' J => ⟨v, _, K, J, r, q⟩
  | next => obtain ⟨τ, K, S, q⟩ := h; exact gone_ok (S.unsuite ok) nod hi hl fun s' J => ⟨_, K, J, q⟩
  | brk => obtain ⟨τ, K, S, q⟩ := h; exact gone_ok (S.unsuite ok) nod hi hl fun s' J => ⟨_, K, J, q⟩
  | cont => obtain ⟨τ, K, S, q⟩ := h; exact gone_ok (S.unsuite ok) nod hi hl fun s' J => ⟨_, K, J, q⟩
theorem try_back {pins pn' : List (Addr × Obj)} {xe : Value → Shared → Prop} {D : Ends} {f : Flow} {s : Shared} (ok : X.Ok) (h : SP (X.tr (X.pn ++ pins) xe) pn' D f s) : SP X pins D f s := by
  cases f with
  | ret u => obtain ⟨v, τ, K, J, r, q⟩ := h; exact ⟨v, τ, K, J.ofTry ok, r, q⟩
  | next => obtain ⟨τ, K, J, q⟩ := h; exact ⟨τ, K, J.ofTry ok, q⟩
  | brk => obtain ⟨τ, K, J, q⟩ := h; exact ⟨τ, K, J.ofTry ok, q⟩
  | cont => obtain ⟨τ, K, J, q⟩ := h; exact ⟨τ, K, J.ofTry ok, q⟩
theorem ps_tryM {body : List Stmt} {h0 : ExceptHandler} {hds : List ExceptHandler} {rs : List Cl} {pos : Pos} {tb : WX → TS} {Wout : WX} (hs : X.stack = X.env :: X.outer) (hf : X.env.frame = some X.env.locals) (nod : X.N.Nodup) (tk : Takes X Wout)
    (hb : ∀ (W : WX) (pn : List (Addr × Obj)) (xe : Value → Shared → Prop), Takes (X.tr pn xe) W → PassesOwn (model X.prog X.w) X.A X.env xe → PSs (X.tr pn xe) body (tb W)) (hh : ClsOk X (h0 :: hds) rs) :
    PS X (.Try body (h0 :: hds) [] [] pos) (fun D σ H => tb (wCls X.K Wout D rs) D σ H) := by
  refine ⟨fun pins s σ H D I h => wpAny_Try_except ?_⟩
  have ok := I.ok
  have fr : X.A.frames = some (X.env :: X.outer) := by rw [ok.frames, hs]
  refine wpAny_mono ((hb (wCls X.K Wout D rs) (X.pn ++ pins) (fun e s₁ => wpAny (model X.prog X.w) X.A (noteFrame e X.env) (fun _ s₂ => wpAny (model X.prog X.w) X.A (setFlight e none)
    (fun _ s₃ => wpAny (model X.prog X.w) X.A (handleBy e X.env (h0 :: hds)) (SP X pins D) X.xe s₃) X.xe s₂) X.xe s₁) (fun u s' xx => ?_) PassesOwn.looking).run [] s σ H D (I.toTry _) h) (fun f s1 q => ?_) fun _ _ z => z
  case refine_1 =>
    obtain ⟨a, B, sI, pn', τ, K, cls, d, rfl, J', nb, up, sky, na, os, ag, w⟩ := xx
    have J : Inv X pins τ K sI := J'.ofTry ok
    refine Sky.land Zc.steady fr hf (by rw [← hs]; exact sky) fun h3 fl up3 => ?_
    have J3 : Inv X pins τ K { s' with heap := h3 } := J.landed nb fl.1 (up.trans up3) os ag
    -- the exception is no frame
    have apart : ∀ b ∈ frs (X.env :: X.outer), b ≠ a := fun b hb z => by
      subst z
      obtain ⟨oe, vs, e1, _, e2⟩ := fl.there
      obtain ⟨_, o', e', nf⟩ := fl.2.2.1.mem hb
      rw [e1] at e'
      cases e'
      exact nf _ e2
    have n1 : a ≠ X.env.locals := fun z => apart a (List.mem_filterMap.mpr ⟨X.env, List.mem_cons_self, by rw [hf, z]⟩) rfl
    have n2 : a ∉ X.fs := fun hm => by
      obtain ⟨e, he, q⟩ := List.mem_filterMap.mp hm
      exact apart a (List.mem_filterMap.mpr ⟨e, List.mem_cons_of_mem _ he, q⟩) rfl
    obtain ⟨oe, vs, eo, zo, dv⟩ := fl.there
    have S3 := J3.suite eo dv na n1 n2
    have LT : PySem.W.Looks (model X.prog X.w) h3 (typeOf (.ref a)) cls := fun A Q E s k q => wpAny_typeOf_ref (k _ _ eo) (by rw [zo.1]; exact q)
    suffices go : ∀ {hs' : List ExceptHandler} {rs' : List Cl}, ClsOk X hs' rs' → wCls X.K Wout D rs' cls d τ K → wpAny (model X.prog X.w) X.A (handleBy (.ref a) X.env hs') (SP X pins D) X.xe { s' with heap := h3 } from go hh w
    intro hs' rs' hk
    induction hk with
    | nil =>
      intro w
      have out : wpAny (model X.prog X.w) X.A (setFlight (.ref a) X.env.frame) (fun _ s4 => wpAny (model X.prog X.w) X.A (throw (.ref a) : Sem Flow) (SP X pins D) X.xe s4) X.xe { s' with heap := h3 } := by
        rw [hf]
        exact HandSPX.setFlight_upZ fl fun h4 hh4 up4 => wpAny_throw (tk _ _ ⟨a, B, sI, pins, τ, K, cls, d, rfl, J, nb, (up.trans up3).trans up4, .inr (.inr (by rw [hs]; exact hh4)), na, os, ag, w⟩)
      refine wpAny_handleBy_nil ?_
      obtain ⟨_, _, _, oe, vs, T, _, _, he, _, hd, h1, _⟩ := id fl
      unfold PySem.passOn
      refine wpAny_bind (wpAny_field he hd h1 ?_)
      rw [if_neg (show ¬ ((Value.ref T == Value.none) = true) by simp)]
      first
        | exact wpAny_bind (wpAny_pure (wpAny_bind out))
        | exact wpAny_bind out
    | @cons x n r st suite p1 p2 hds2 rs2 hi hl hc hsu t ih =>
      rintro ⟨b, e1, w⟩
      have LM := PySem.W.exm_one (M := model X.prog X.w) J3.kIn LT e1
      refine wpAny_handleBy_cons (codeAny_handlers_test ?_) (by intro q; cases q)
      have named : ∀ {Q : Value → Shared → Prop} {E : Value → Shared → Prop}, Q r.c { s' with heap := h3 } → wpAny (model X.prog X.w) (X.A.mark (some (.ref a))) (eval (.Name x p1) X.env) Q E { s' with heap := h3 } := fun {Q E} q =>
        match hc with
        | ⟨hg, hdbg, .inl hm⟩ => ld_glob (X := X.suite a ((a, oe) :: (X.pn ++ pins))) S3 hg hm q hdbg
        | ⟨hg, hdbg, .inr ⟨hm, hv, hnn⟩⟩ => ld_blt (X := X.suite a ((a, oe) :: (X.pn ++ pins))) S3 hg hm hv q hnn hdbg
      refine named (LM.here ?_)
      cases b with
      | false => exact ih w
      | true =>
        refine codeAny_handlers_suite_as (HandSPX.lands_againZ fl fun h4 fl4 up4 => ?_)
        obtain ⟨oe4, vs4, eo4, zo4, dv4⟩ := fl4.there
        have S4 := (J.landed nb fl4.1 ((up.trans up3).trans up4) os ag : Inv X pins τ K { s' with heap := h4 }).suite eo4 dv4 na n1 n2
        refine store_ok (X := X.suite a ((a, oe4) :: (X.pn ++ pins))) (v := .ref a) S4 nod hi (.inl hl) rfl (fun s5 S5 => ?_) (.inr hl)
        exact wpAny_mono ((hsu a oe4 cls d (X.pn ++ pins) zo4 ⟨_, dv4⟩).run [] s5 _ K _ S5 (w a na)) (fun f s6 q => suite_ends ok nod hi hl q) (fun _ _ z => False.elim z)
  case refine_2 =>
    have q' := try_back ok q
    cases f with
    | next => exact wpAny_execs_nil q'
    | ret u => exact q'
    | brk => exact q'
    | cont => exact q'
end
end Tw
/-! raise, try, a lambda handed to a catcher; over data. -/
namespace Tw
open PySem PySem.Spec PyProof.Rows L2
def Ex.ix : Ex → Nat
  | .tear => 0 | .machine => 1 | .rule => 2 | .word => 3 | .stretch => 4 | .reading => 5 | .side => 6 | .count => 7 | .hint => 8 | .check => 9 | .kind => 10 | .things => 11 | .desk => 12 | .deed => 13 | .undo => 14 | .twice => 15 | .notThere => 16 | .tooGreat => 17 | .rivals => 18
/-- is every C a c? -/
def subE (C c : Ex) : Bool := c.ix == 0 || C.ix == c.ix
/-- what the head says of the classes kn -/
structure ExcK (K : PySem.W.Frag) (T : Tb) (kn : List Ex) : Prop where
  sub : ∀ C ∈ kn, ∀ c ∈ kn, PySem.W.exmOne K (.ref (T.ec C)) (.ref (T.ec c)) = some (subE C c)
section
variable {X : Cx} {T : Tb} {W : WX}
def dRaise (C : Ex) : MS := fun D δ h => D.ex C δ h
theorem ds_raise {C : Ex} {B newId initId : String} {bmB : List Value} {x m : Str} {j : Nat} {p p2 pos pos' : Pos} (calm : X.calm = true) (tk : Takes X W) (F : ExcBaseFacts B newId initId bmB) (q : PySem.W.excIn X.K (T.ec C) bmB newId = true) (gC : X.mg x = some (.ref (T.ec C)))
    (kC : PySem.W.keepIn X.K (.ref (T.ec C)) = true) (r : Raises X (.ref (T.ec C))) (hg : Gl X x) (hdb : (x == ("__debug__" : Str)) = false := by decide) : DS X T W (.Raise (some (.Call (.Name x p) [.Constant (.str m) j p2] [] pos)) none pos') (dRaise C) := by
  refine ps_imp (ps_raise calm tk (pmk_own F q gC kC r hg hdb)) ?_
  rintro D σ H ⟨δ, h, DD, rs, rh, q, k⟩
  exact k.ex C σ δ H h Ext.refl rs rh q
/-- a clause over data -/
structure DCl where
  c : Ex
  i : Nat
  m : MS
def goneD (D : DEnds) (i : Nat) : DEnds := { nx := fun δ h => D.nx (δ.set i none) h, rt := D.rt, bk := fun δ h => D.bk (δ.set i none) h, ct := fun δ h => D.ct (δ.set i none) h }
def dCls (C : Ex) (D : DEnds) (δ : DSt) (h : DHp) : List DCl → Prop
  | [] => D.ex C δ h
  | r :: rs => match subE C r.c with
    | true => ∀ a, h a = none → r.m (goneD D r.i) (δ.set r.i (some (.ref a))) h
    | false => dCls C D δ h rs
/-- try, where classes of kn may be raised -/
def dTry (kn : List Ex) (body : MS) (cls : List DCl) : MS := fun D δ h => body { nx := D.nx, rt := D.rt, bk := D.bk, ct := D.ct, ex := fun C δ' h' => C ∈ kn ∧ dCls C D δ' h' cls } δ h
/-! ### a lambda for a catcher: try: call() / except A as e: return 'a' .. / return 'none' -/
def catchV (K : PySem.W.Frag) (Q : VK) (H : Hp) (cls : Value) : List (Value × Str) → Prop
  | [] => False
  | (c, r) :: rs => ∃ b, PySem.W.exmOne K cls c = some b ∧ match b with
    | true => Q (.str r) H
    | false => catchV K Q H cls rs
def TCat (K : PySem.W.Frag) (rs : List (Value × Str)) (last : Str) : (XK → Hp → VK → Prop) → Hp → VK → Prop := fun tl H Q => tl (fun cls _ H' => catchV K Q H' cls rs) H (fun _ H' => Q (.str last) H')
/-- the clauses' text -/
inductive CatH (sg : Scope) (Ng : List Str) (mg : Str → Option Value) : List ExceptHandler → List (Value × Str) → Prop
  | nil : CatH sg Ng mg [] []
  | cons {x e r : Str} {c : Value} {i j : Nat} {p1 p2 p3 p4 : Pos} {hds : List ExceptHandler} {rs : List (Value × Str)} (hg : sg.names.lookup x = some .globalImplicit) (hm : mg x = some c) (hd : (x == ("__debug__" : Str)) = false) (hi : Ng[i]? = some e) (hl : sg.names.lookup e = some .local)
      (t : CatH sg Ng mg hds rs) : CatH sg Ng mg (.ExceptHandler (some (.Name x p1)) (some e) [.Return (some (.Constant (.str r) j p2)) p3] p4 :: hds) ((c, r) :: rs)
theorem cat_gives {Ng : List Str} {x a q last : Str} {sg : Scope} {g : Addr} {cdg : Value} {j : Nat} {h0 : ExceptHandler} {hds : List ExceptHandler} {rs : List (Value × Str)} {p1 p2 p3 p4 p5 p6 : Pos} (nod : Ng.Nodup) (hh : CatH sg Ng X.mg (h0 :: hds) rs) (h00 : ∀ f : Addr, (L2.start Ng [V.ref f])[0]? = some (some (V.ref f)))
    (hsw : ∀ (Y : Cx), swapsWith (.Call (.Name a p1) [] [] p2) none p3.line Y.env = pure false := by intro _; rfl) :
    LamX.GivesTo X Ng x sg g cdg [.Try [.Expr (.Call (.Name a p1) [] [] p2) p3] (h0 :: hds) [] [] p4, .Return (some (.Constant (.str last) j p5)) p6] a q (TCat X.K rs last) := by
  intro f c' s H Q tl act hc h
  generalize eY : (cxOf C8.CX0 X.prog X.w X.K X.mg X.base Ng x sg g cdg X.A X.stack s H C8.E0).nox = Y
  have eK : Y.K = X.K := by subst eY; rfl
  -- the clauses
  have cl : ∀ {hs : List ExceptHandler} {rs : List (Value × Str)}, CatH sg Ng X.mg hs rs → ∃ cs : List Cl, ClsOk Y hs cs ∧ ∀ (D : Ends) (cls : Value) (d : Option Addr) (σ : L2.St) (H : Hp), D.rt = Q → catchV X.K Q H cls rs → wCls Y.K (fun _ _ _ _ => False) D cs cls d σ H := by
    intro hs rs hk
    induction hk with
    | nil => exact ⟨[], .nil, fun _ _ _ _ _ _ z => z⟩
    | @cons x e r c i j p1 p2 p3 p4 hds rs hg hm hd hi hl t ih =>
      obtain ⟨cs, a1, a2⟩ := ih
      refine ⟨⟨c, i, fun _ _ _ => tRet (tC (.str r))⟩ :: cs, .cons (n := e) ?_ ?_ ?_ (fun a oe cls d pn _ _ => pss_one (ps_ret pe_str)) a1, fun D cls d σ H hD w => ?_⟩
      · subst eY; exact hi
      · subst eY; exact hl
      · subst eY; exact ⟨hg, hd, .inl hm⟩
      · obtain ⟨b, e1, w⟩ := w
        refine ⟨b, by rw [eK]; exact e1, ?_⟩
        cases b with
        | true => intro a na; show D.rt (.str r) H; rw [hD]; exact w
        | false => exact a2 D cls d σ H hD w
  obtain ⟨cs, ok, wd⟩ := cl hh
  have try_ := ps_tryM (X := Y) (pos := p4) (Wout := fun _ _ _ _ => False) (rs := cs) (body := [.Expr (.Call (.Name a p1) [] [] p2) p3]) (by subst eY; rfl) (by subst eY; rfl) (by subst eY; exact nod) LamX.takes0
    (tb := fun W D σ H => ∃ Ech : XK, (∀ cls d σ' H', Ech cls d H' → W cls d σ' H') ∧ σ[0]? = some (some (.ref f)) ∧ H c' = some (LamX.CodeO c' q) ∧ tl Ech H fun _ H' => D.nx σ H') (fun W pn xe tk _ => ?_) ok
  · refine ⟨_, pss_cons try_ (pss_one (ps_ret (pe_str (x := last)))), ?_⟩
    refine ⟨fun cls _ H' => catchV X.K Q H' cls rs, fun cls d σ' H' z => wd _ cls d σ' H' rfl z, h00 f, hc, h⟩
  · subst eY
    refine ⟨fun pins s' σ H' D I h' => ?_⟩
    obtain ⟨Ech, hW, h1, h2, h3⟩ := h'
    exact (pss_one (ps_expr (act W pn xe Ech p1 p2 tk hW) (hsw _))).run pins s' σ H' D I ⟨h1, h2, h3⟩
def catchD (C : Ex) (Q : DK) (h : DHp) : List (Ex × List Nat) → Prop
  | [] => False
  | r :: rs => match subE C r.1 with
    | true => Q (.str r.2) h
    | false => catchD C Q h rs
def dCat (kn : List Ex) (cls : List (Ex × List Nat)) (last : List Nat) (me : ME) : ME := fun δ h Q E => me δ h (fun _ h1 => Q (.str last) h1) (fun C h1 => C ∈ kn ∧ catchD C Q h1 cls)
def catVs (T : Tb) (cls : List (Ex × List Nat)) : List (Value × Str) := cls.map fun r => (Value.ref (T.ec r.1), tx r.2)
theorem catch_ok {kn : List Ex} (xk : ExcK X.K T kn) {Q' : DK} {Q : VK} {h : DHp} {H : Hp} {C : Ex} (hC : C ∈ kn) (rh : RelH (cn X T) H h) (k : ∀ z, Q' (.str z) h → Q (.str (tx z)) H) : ∀ (cls : List (Ex × List Nat)), (∀ r ∈ cls, r.1 ∈ kn) → catchD C Q' h cls → catchV X.K Q H (.ref (T.ec C)) (catVs T cls)
  | [], _, z => z
  | r :: rs, hk, z => by
    refine ⟨subE C r.1, xk.sub C hC r.1 (hk r (by simp)), ?_⟩
    unfold catchD at z
    cases e : subE C r.1 with
    | true => rw [e] at z; exact k _ z
    | false => rw [e] at z; exact catch_ok xk hC rh k rs (fun r' h' => hk r' (by simp [h'])) z
theorem relH_extN {c : Cn} {h : DHp} {H H1 : Hp} (rh : RelH c H h) (eN : LamX.ExtN H H1) (t1 : LamX.Tabs c.T.tabs H1) : RelH c H1 h ∧ Keeps H H1 := by
  have k : Keeps H H1 := ⟨fun a xs e => eN a _ e (fun ps z => by cases z), fun a ob u e => eN a _ e (fun ps z => by cases z)⟩
  refine ⟨⟨fun a o e => ?_, t1⟩, k⟩
  have z := rh.at_ a o e
  obtain ⟨u, e1, sn⟩ := z.some
  exact z.keep k (by rw [e1]; exact eN a u e1 (fun ps z => by subst z; exact sn))
theorem de_lamC {kn : List Ex} {cls : List (Ex × List Nat)} {last : List Nat} {me : ME} {x a : Str} {g c P : Addr} {k : Nat} {pg : Arguments} {sg : Scope} {dV kV doc pm cdv ct oc : Value} {an od : Option Addr} {osl : Array (Option Value)} {Ng : List Str}
    {params : Arguments} {body : Expr} {scope : Scope} {p lpos pos p1 p2 p3 p4 p5 p6 : Pos} {h0 : ExceptHandler} {hds : List ExceptHandler} {j : Nat} {lst : Str} (hlst : lst = tx last) (xk : ExcK X.K T kn) (hcl : ∀ r ∈ cls, r.1 ∈ kn)
    (hg : Gl X x) (hm : X.mg x = some (.ref g)) (hk : PySem.W.keepIn X.K (.ref g) = true)
    (lk : X.K.lookup g = some ⟨oc, od, .func (PySem.W.fnOf x x pg [.Try [.Expr (.Call (.Name a p1) [] [] p2) p3] (h0 :: hds) [] [] p4, .Return (some (.Constant (.str lst) j p5)) p6] sg dV kV doc pm an cdv ct), osl⟩) (hcg : PySem.W.codeIn X.K cdv x = true)
    (hb : L2.Binds X.K (PySem.W.fnOf x x pg [.Try [.Expr (.Call (.Name a p1) [] [] p2) p3] (h0 :: hds) [] [] p4, .Return (some (.Constant (.str lst) j p5)) p6] sg dV kV doc pm an cdv ct) [a] []) (Sg : FnScope Ng [a] sg) (hNg : Ng[0]? = some a) (hva : Vis sg a) (nod : Ng.Nodup)
    (h00 : ∀ f : Addr, (L2.start Ng [V.ref f])[0]? = some (some (V.ref f))) (hh : CatH sg Ng X.mg (h0 :: hds) (catVs T cls))
    (TB : LamX.TabB X.base X.mg c P) (hcode : X.env.code = .ref c) (hmT : (P, X.env.qual ++ "<lambda>") ∈ T.tabs) (hu : ∀ p ∈ T.tabs, p.1 = P → p.2 = X.env.qual ++ "<lambda>") (hr : Room (k + 2) X.A) (L : LamX.LamS X.env.scope scope) (hdef : defaultsOf params X.env = ([], []))
    (hbind : ∀ (q : Str) (cl : List (Str × Addr)) (pm cv ctv : Value), bindArgs (PySem.W.kla_fn "<lambda>" q params body scope cl pm cv ctv) ⟨[], []⟩ = pure [])
    (hbody : ∀ (A : Around) (outer : List Env) (s : Shared) (H : Hp) (E : XK) (f c' : Addr), Room k (A.deeper (LamX.lamEnv X scope s.heap.objs.size f c')) → DE (LamX.lamCx X A outer s H E scope f c') T (fun cls d _ H => E cls d H) body me)
    (hdb : (x == ("__debug__" : Str)) = false := by decide) (hd : (a == ("__debug__" : Str)) = false := by decide) (hcd : (a == ("__classdict__" : Str)) = false := by decide) :
    DE X T W (.Call (.Name x p) [.Lambda params body scope lpos] [] pos) (dCat kn cls last me) := by
  subst hlst
  refine pe_imp (LamX.pe_lamcall (T := T.tabs) (TT := TCat X.K (catVs T cls) (tx last)) (t := fun E => up (cn X T) (fun cls d _ H => E cls d H) me) hg hm hk lk hcg hb Sg hNg hva (cat_gives nod hh h00) TB hcode hmT hu hr L hdef hbind hbody hdb hd hcd) ?_
  rintro σ H Q ⟨δ, h, Q', E', rs, rh, q, k, kx⟩
  refine ⟨rh.tabs, fun H1 eN T1 => ?_⟩
  obtain ⟨rh1, kp⟩ := relH_extN rh eN T1
  have x1 : Ext h h H H1 := fun a o n e nt => ⟨eN a o e nt, n⟩
  refine ⟨δ, h, _, _, rs.keep kp, rh1, q, fun v d H' h' x' r' rh' q' => k _ _ _ _ (x1.trans x') mk_str rh' q', fun C H' h' x' rh' q' => ?_⟩
  exact catch_ok xk q'.1 rh' (fun z hz => k _ _ _ _ (x1.trans x') mk_str rh' hz) cls hcl q'.2
/-- a catcher of the program: try: call() / except A as e: return 'a' .. / return last -/
inductive HasCat (K : PySem.W.Frag) (mg : Str → Option Value) (T : Tb) (x : Str) (cls : List (Ex × List Nat)) (last : List Nat) : Prop
  | mk {lst a : Str} {g : Addr} {pg : Arguments} {sg : Scope} {dV kV doc pm cdv ct oc : Value} {an od : Option Addr} {osl : Array (Option Value)} {Ng : List Str} {h0 : ExceptHandler} {hds : List ExceptHandler} {j : Nat} {p1 p2 p3 p4 p5 p6 : Pos} (hlst : lst = tx last) (hm : mg x = some (.ref g)) (hk : PySem.W.keepIn K (.ref g) = true)
    (lk : K.lookup g = some ⟨oc, od, .func (PySem.W.fnOf x x pg [.Try [.Expr (.Call (.Name a p1) [] [] p2) p3] (h0 :: hds) [] [] p4, .Return (some (.Constant (.str lst) j p5)) p6] sg dV kV doc pm an cdv ct), osl⟩) (hcg : PySem.W.codeIn K cdv x = true)
    (hb : L2.Binds K (PySem.W.fnOf x x pg [.Try [.Expr (.Call (.Name a p1) [] [] p2) p3] (h0 :: hds) [] [] p4, .Return (some (.Constant (.str lst) j p5)) p6] sg dV kV doc pm an cdv ct) [a] []) (Sg : FnScope Ng [a] sg) (hNg : Ng[0]? = some a) (hva : Vis sg a) (h00 : ∀ f : Addr, (L2.start Ng [V.ref f])[0]? = some (some (V.ref f))) (hh : CatH sg Ng mg (h0 :: hds) (catVs T cls))
    (hd : (a == ("__debug__" : Str)) = false) (hcd : (a == ("__classdict__" : Str)) = false) : HasCat K mg T x cls last
theorem de_lam {kn : List Ex} {cls : List (Ex × List Nat)} {last : List Nat} {me : ME} {x : Str} {c P : Addr} {k j : Nat} {params : Arguments} {body : Expr} {scope : Scope} {p lpos pos : Pos} (H : HasCat X.K X.mg T x cls last) (xk : ExcK X.K T kn) (hcl : ∀ r ∈ cls, r.1 ∈ kn) (hg : Gl X x)
    (TB : LamX.TabB X.base X.mg c P) (hcode : X.env.code = .ref c) (hmT : (P, X.env.qual ++ "<lambda>") ∈ T.tabs) (hu : ∀ p ∈ T.tabs, p.1 = P → p.2 = X.env.qual ++ "<lambda>") (hr : Room j X.A) (hkj : k + 2 ≤ j) (L : LamX.LamS X.env.scope scope) (hdef : defaultsOf params X.env = ([], []))
    (hbind : ∀ (q : Str) (cl : List (Str × Addr)) (pm cv ctv : Value), bindArgs (PySem.W.kla_fn "<lambda>" q params body scope cl pm cv ctv) ⟨[], []⟩ = pure [])
    (hbody : ∀ (A : Around) (outer : List Env) (s : Shared) (H : Hp) (E : XK) (f c' : Addr), Room k (A.deeper (LamX.lamEnv X scope s.heap.objs.size f c')) → DE (LamX.lamCx X A outer s H E scope f c') T (fun cls d _ H => E cls d H) body me)
    (hdb : (x == ("__debug__" : Str)) = false := by decide) : DE X T W (.Call (.Name x p) [.Lambda params body scope lpos] [] pos) (dCat kn cls last me) := by
  obtain ⟨hlst, hm, hk, lk, hcg, hb, Sg, hNg, hva, h00, hh, hd, hcd⟩ := H
  exact de_lamC hlst xk hcl hg hm hk lk hcg hb Sg hNg hva Sg.nd h00 hh TB hcode hmT hu (hr.mono hkj) L hdef hbind hbody hdb hd hcd
end
end Tw
/-! enumerate of a list or of a tuple. -/
namespace Tw
open PySem PySem.Spec PyProof.Rows L2
open PySem.AutoSeq1 (wpAny_loadPart')
theorem meets_enumerate_newT (l : Addr) (items : Array Value) (n : Nat) (dct : Option Addr) (sl : Array (Option Value)) :
    Meets (Builtin.«enumerate.__new__» ⟨[.type "enumerate", .ref l], []⟩) (fun _ R s => s.heap.get? l = some { cls := .type "tuple", dict := dct, data := .seq items n, slots := sl } ∧
      R (.ok (.ret (.ref (s.heap.push { cls := .type "tuple_iterator", data := .fields #[.ref l, .int 0 0] }).objs.size)))
        { s with heap := (s.heap.push { cls := .type "tuple_iterator", data := .fields #[.ref l, .int 0 0] }).push { cls := .type "enumerate", data := .fields #[.none, .bool false, .ref s.heap.objs.size, rawInt 0, .none, .none] } }) :=
  .of_wp fun prog w A R s h => by
    obtain ⟨hp, g, d, tk, os⟩ := s; obtain ⟨hl, h⟩ := h
    have hsub := sub_enumerate
    have hL : Heap.IsTuple (Shared.heap ⟨hp, g, d, tk, os⟩) l items := ⟨_, hl, rfl, n, rfl⟩
    wp_walk using wpAny_loadPart' hl
    refine wpAny_stack_any fun st => wpAny_pure ?_
    split
    · rename_i c _ _ _ _ _
      cases (c == Value.type "enumerate")
      · wp_walk using wpAny_loadPart' hl, wpAny_pyIter_tuple hL
        exact ⟨_, rfl, h⟩
      · wp_walk using wpAny_loadPart' hl, wpAny_pyIter_tuple hL
        exact ⟨_, rfl, h⟩
    · wp_walk using wpAny_loadPart' hl, wpAny_pyIter_tuple hL
      exact ⟨_, rfl, h⟩
theorem call_enumerate_tuple {prog : Program} {w : World} {A : Around} {E : Value → Shared → Prop} {s : Shared} {l : Addr} {items : Array Value} {Q : Value → Shared → Prop} (hL : s.heap.IsTuple l items)
    (h : ∀ h', IsEnum h' (s.heap.objs.size + 1) s.heap.objs.size 0 .none → h'.IsTupleIter s.heap.objs.size l 0 → h'.objs.size = s.heap.objs.size + 2 →
      (∀ b o, s.heap.get? b = some o → h'.get? b = some o) → Q (.ref (s.heap.objs.size + 1)) { s with heap := h' }) :
    wpAny (model prog w) A (call (.type "enumerate") [.ref l]) Q E s := by
  obtain ⟨⟨c, dct, dt, sl⟩, hl, hc, n, hd⟩ := hL
  replace hc : c = .type "tuple" := hc
  replace hd : dt = .seq items n := hd
  subst hc hd
  refine callType_new F.called_enumerate (by decide) (F.typeCall_enumerate_1 _) (F.newCall_enumerate_1 _) (fun obj => F.args_object_init_2 obj _) F.entry_enumerate_new
    (meets_enumerate_newT l items n dct sl) ⟨hl, ?_⟩
  have hz : (s.heap.push { cls := .type "tuple_iterator", data := .fields #[.ref l, .int 0 0] }).objs.size = s.heap.objs.size + 1 := Heap.size_push ..
  show _ ∧ _
  rw [hz]
  have he : IsEnum ((s.heap.push { cls := .type "tuple_iterator", data := .fields #[.ref l, .int 0 0] }).push
      { cls := .type "enumerate", data := .fields #[.none, .bool false, .ref s.heap.objs.size, rawInt 0, .none, .none] }) (s.heap.objs.size + 1) s.heap.objs.size 0 .none := by
    have := Heap.get?_push_size (s.heap.push { cls := .type "tuple_iterator", data := .fields #[.ref l, .int 0 0] })
      (o := { cls := .type "enumerate", data := .fields #[.none, .bool false, .ref s.heap.objs.size, rawInt 0, .none, .none] }) rfl
    rw [hz] at this; exact this
  refine ⟨⟨_, he, rfl⟩, h _ he ⟨_, Heap.get?_push_of_some _ (Heap.get?_push_size _ rfl), rfl, rfl⟩ (by rw [Heap.size_push, hz]) fun b o x => Heap.get?_push_of_some _ (Heap.get?_push_of_some _ x)⟩
def IteT (K : PySem.W.Frag) (a : Addr) : It :=
  ⟨fun i H => ∃ (xs : List V) (x : V), SqT K H a xs ∧ xs[i]? = some x, fun i H v H' => ∃ T x, v = .ref T ∧ H T = none ∧ H' = upd H T (.tup [.int (i : Nat), x]) ∧ ∀ xs, SqT K H a xs → xs[i]? = some x, fun i H => ∃ xs : List V, SqT K H a xs ∧ xs.length ≤ i⟩
theorem turn_enumT {P : Program} {w : World} {K : PySem.W.Frag} {elts : List Expr} {kk : Nat} {tpos : Pos} (a e it : Addr) (hai : a ≠ it) (hae : a ≠ e) :
    Turn P w K (.Tuple elts kk tpos) (IteT K a) [e, it] e (fun i h => (∃ old, IsEnum h e it ((i : Nat) : Int) old) ∧ h.IsTupleIter it a i ∧ e ≠ it) where
  mem := by simp
  obj := fun i h st b hb => by
    obtain ⟨⟨old, he⟩, ⟨o, ho, hc, hd⟩, _⟩ := st
    have e' : b = e ∨ b = it := by simpa using hb
    rcases e' with z | z
    · rw [z]; exact ⟨_, he, fun v q => nomatch q⟩
    · rw [z]; exact ⟨o, ho, fun v q => by rw [hd] at q; cases q⟩
  keep := fun i h h' st k => let ⟨⟨old, he⟩, hi, hne⟩ := st; ⟨⟨old, k e (by simp) _ he⟩, hi.at fun o q => k it (by simp) o q, hne⟩
  item := by
    intro X hP hw hK hc i pins s σ H E I hf st hg
    subst hP hw hK
    obtain ⟨⟨old, he⟩, hit, hne⟩ := st
    obtain ⟨xs, x, hq, hx⟩ := hg
    obtain ⟨its, rv, p, hz⟩ := I.tuple hq
    have p' : s.heap.IsTuple a its.toArray := p
    obtain ⟨u, hu, ru⟩ := rv.get hx
    have hel : e < s.heap.objs.size := Heap.lt_size he
    have hil : it < s.heap.objs.size := by obtain ⟨_, q, _⟩ := hit; exact Heap.lt_size q
    have hlt : i < its.toArray.size := by
      obtain ⟨q, _⟩ := List.getElem?_eq_some_iff.mp hu
      simpa using q
    have D := Draws.tuple (prog := X.prog) (w := X.w) (A := X.A.in1) (show X.A.in1.handled = none from I.ok.hd hc) it a hai its.toArray
    refine wpAny_pyNext_enum_itemD D he (⟨hit, p'⟩ : s.heap.IsTupleIter it a i ∧ s.heap.IsTuple a its.toArray) hlt hne (by simp [hne, Ne.symm hae]) fun y h' tk hy ho hst' hT hsz hk => ?_
    have hyu : y = u := by
      have e1 : its.toArray[i]? = some y := hy
      rw [List.getElem?_toArray, hu] at e1
      exact (Option.some.inj e1).symm
    subst hyu
    obtain ⟨hit', _⟩ := hst'
    refine ⟨_, rfl, wpAny_letOwnedTupleGo_enum (s := { s with heap := h', toks := tk + 1 }) ho fun h'' he' sb => ?_⟩
    have hT2 : h''.get? s.heap.objs.size = some { cls := .type "tuple", data := .seq #[.int i tk, y] } := (sb.2 _ (Nat.ne_of_gt hel)).trans hT
    have new : ObjOk X.prog X.w (upd H s.heap.objs.size (.tup [.int (i : Nat), x])) h'' s.heap.objs.size (.tup [.int (i : Nat), x]) :=
      ⟨by show 2 ≤ sizeLine; decide, [.int i tk, y], .cons ⟨_, rfl⟩ (.cons ru .nil), ⟨_, hT2, rfl, _, rfl⟩⟩
    have I1 : Inv X pins σ (upd H s.heap.objs.size (.tup [.int (i : Nat), x])) { s with heap := h'', toks := tk + 1 } :=
      I.turnedNew (ch := [e, it]) (fun b ob hb q => (sb.2 b (fun z => hb (by simp [z]))).trans (hk b ob (fun z => hb (by simp [z])) (fun z => hb (by simp [z])) q)) hf (Nat.le_refl _) new
    refine ⟨.ref s.heap.objs.size, _, I1, rfl, ⟨_, x, rfl, I.hok.fresh (Nat.le_refl _), rfl, fun ys hy => by rw [I.tuple_inj hy hq]; exact hx⟩, ⟨⟨y, ?_⟩, hit'.at fun o q => (sb.2 it (Ne.symm hne)).trans q, hne⟩, fun b hb => ?_⟩
    · have e1 : ((i + 1 : Nat) : Int) = (i : Int) + 1 := by omega
      rw [e1]; exact he'
    · have hb' : b < s.heap.objs.size := by
        have e' : b = e ∨ b = it := by simpa using hb
        rcases e' with z | z
        · rw [z]; exact hel
        · rw [z]; exact hil
      rw [upd_ne (Nat.ne_of_lt hb')]
      exact (hf b hb).1
  done := by
    intro X hP hw hK hc i pins s σ H E I hf st hg
    subst hP hw hK
    obtain ⟨⟨old, he⟩, hit, hne⟩ := st
    obtain ⟨xs, hq, hx⟩ := hg
    obtain ⟨its, rv, p, hz⟩ := I.tuple hq
    have p' : s.heap.IsTuple a its.toArray := p
    obtain ⟨f0, f1, f2, f3, f4, f5⟩ := hf it (by simp)
    have hl := rv.length
    have hT : s.TypeIs (.ref e) "enumerate" := ⟨_, he, rfl⟩
    unfold pyNext
    refine wpAny_bind (wpAny_attempt (wpAny_callSpecial?_slot (name := Str.ofString "__next__") hT F.slot_enumerate_next
      (wpAny_call_entry F.slot_enumerate_next hT F.entry_enumerate_next ?_ (F.args_enumerate_next_1 _))))
    show wpAny _ _ (field (.ref e) 2 >>= _) _ _ _
    refine wpAny_bind (wpAny_field he rfl (x := .ref it) rfl ?_)
    refine wpAny_bind (RZ.nextOf_tuple_end (show X.A.in1.handled = none from I.ok.hd hc) hit p' (by rw [List.getElem?_toArray]; exact List.getElem?_eq_none (by omega)) fun h' x eb hx' => ?_)
    obtain ⟨o, ho, hc'⟩ := hx'
    refine wpAny_bind (wpAny_isInstance (T := "StopIteration") (b := true) ⟨o, ho, hc'⟩ isSubtype_stop ?_)
    exact wpAny_pure ⟨rfl, I.turned (t' := s.toks) (fun b o hb q => eb b o hb q) f0 f1 f3 f4 f5⟩
  self := fun A i s Q E st h => let ⟨⟨_, he⟩, _⟩ := st; wpAny_pyIter_enum he h
def iEnum2 (K : PySem.W.Frag) (ta : TA) : TI := fun σ H R => ta σ H fun vs H1 => ∃ a xs, vs = [.ref a] ∧ ((SqL K H1 a xs ∧ R (Ite K a) H1) ∨ (SqT K H1 a xs ∧ R (IteT K a) H1))
theorem pi_enum2 {X : Cx} {e : Expr} {ta : TA} {p pos tpos : Pos} {elts : List Expr} {kk : Nat} (hg : Gl X "enumerate") (hm : X.mg "enumerate" = none) (ha : PA X [e] ta) (hs : starEach [e] X.env = [(false, eval e X.env)] := by rfl) :
    PI X (.Tuple elts kk tpos) (.Call (.Name "enumerate" p) [e] [] pos) (iEnum2 X.K ta) := by
  refine ⟨fun pins s σ H R I h => ?_⟩
  refine Call_ (ld_blt I hg hm boot_enumerate (PyProof.Rows.callWith_type1 (thn (ha.run pos pins s σ H _ I h) fun us s1 ⟨vs, H1, I1, r1, q1⟩ => ?_) hs rfl))
  obtain ⟨a, xs, ex, q⟩ := q1
  subst ex
  cases r1 with
  | cons r rr =>
    cases rr
    cases r
    have fin : ∀ b ∈ [s1.heap.objs.size + 1, s1.heap.objs.size], FpOk X pins H1 b := fun b hb => by
      have e' : b = s1.heap.objs.size + 1 ∨ b = s1.heap.objs.size := by simpa using hb
      have hle : s1.heap.objs.size ≤ b := by
        rcases e' with z | z
        · rw [z]; exact Nat.le_add_right _ _
        · rw [z]; exact Nat.le_refl _
      exact I1.fpOk hle (I1.hok.fresh hle)
    rcases q with ⟨hq, q⟩ | ⟨hq, q⟩
    · obtain ⟨its, rv, p', hz⟩ := I1.list hq
      refine call_enumerate_list p'.isList fun h' he hit hsz hk => wpAny_pyIter_enum he ?_
      have I2 : Inv X pins σ H1 { s1 with heap := h' } := I1.kept (t' := s1.toks) hk
      exact ⟨s1.heap.objs.size + 1, [s1.heap.objs.size + 1, s1.heap.objs.size], _, _, H1, rfl, I2, turn_enum a (s1.heap.objs.size + 1) s1.heap.objs.size, ⟨⟨.none, he⟩, hit, Nat.succ_ne_self _⟩, fin, q⟩
    · obtain ⟨its, rv, p', hz⟩ := I1.tuple hq
      have p2 : s1.heap.IsTuple a its.toArray := p'
      have hlt : a < s1.heap.objs.size := let ⟨_, e, _⟩ := p2; Heap.lt_size e
      refine call_enumerate_tuple p2 fun h' he hit hsz hk => wpAny_pyIter_enum he ?_
      have I2 : Inv X pins σ H1 { s1 with heap := h' } := I1.kept (t' := s1.toks) hk
      exact ⟨s1.heap.objs.size + 1, [s1.heap.objs.size + 1, s1.heap.objs.size], _, _, H1, rfl, I2, turn_enumT a (s1.heap.objs.size + 1) s1.heap.objs.size (Nat.ne_of_lt hlt) (Nat.ne_of_lt (Nat.lt_succ_of_lt hlt)), ⟨⟨.none, he⟩, hit, Nat.succ_ne_self _⟩, fin, q⟩
end Tw
/-! What a walk takes from the head; more rules. -/
namespace Tw
open PySem PySem.Spec PyProof.Rows L2
section
variable {X : Cx} {T : Tb} {W : WX} {e : Expr} {m : ME} {pos : Pos}
theorem dt_val (he : DE X T W e m) (hi : ∀ whole, isTrue e X.env whole = (do let v ← whole; standAt e.pos; holding [v] (truthy v)) := by intro _; rfl) : DT X T W e (dTest m) := pt_imp (pt_val he hi) (up_test (fun _ _ _ z => z))
/-- a def of the program that keeps its promise -/
def Has (P : Program) (w : World) (K : PySem.W.Frag) (mg : Str → Option Value) (base : Heap) (T : Tb) (k : Nat) (x : Str) (ps : List Str) (sp : SpD) : Prop :=
  ∃ f fd, FnOk P w K mg base (L2.CX P w) k f fd ps (lift ⟨K, w, T⟩ ps.length sp) ∧ mg x = some (.ref f) ∧ PySem.W.keepIn K (.ref f) = true ∧ Binds K fd ps []
theorem de_fn {k j n : Nat} {x : Str} {ps : List Str} {sp : SpD} {p : Pos} {e : Expr} {es : List Expr} {ms : MA} (F : Has X.prog X.w X.K X.mg X.base T k x ps sp) (hn : ps.length = n) (hr : Room j X.A) (hk : k ≤ j) (hg : Gl X x) (tk : Takes X W) (ha : DA X T W (e :: es) ms) (hdb : (x == ("__debug__" : Str)) = false := by decide)
    (he : starEach (e :: es) X.env = (false, eval e X.env) :: starEach es X.env := by rfl) (hpl : (backTo pos (starEach es X.env)).any (·.1) = false := by rfl) : DE X T W (.Call (.Name x p) (e :: es) [] pos) (dCall n sp ms) := by
  subst hn
  obtain ⟨f, fd, ok, hm, kp, b⟩ := F
  exact de_call ok (hr.mono hk) hg hm kp b tk ha hdb he hpl
/-- an exception class of the program -/
structure HasEx (K : PySem.W.Frag) (mg : Str → Option Value) (T : Tb) (x : Str) (C : Ex) : Prop where
  at_ : mg x = some (.ref (T.ec C))
  ok : PySem.W.excIn K (T.ec C) He.veBase "ValueError.__new__" = true
  kp : PySem.W.keepIn K (.ref (T.ec C)) = true
  sub : PySem.W.subIn K (.ref (T.ec C)) (.type "BaseException") = some true
  ty : PySem.W.typeIn K (.ref (T.ec C)) = some (.type "type")
theorem de_gi {x : Str} {i : Int} (h : ∃ t, X.mg x = some (.int i t)) (hg : Gl X x) (hd : (x == ("__debug__" : Str)) = false := by decide) : DE X T W (.Name x pos) (dC (.int i)) := by
  obtain ⟨t, h⟩ := h
  exact de_glob (v := .int i) hg h ⟨t, rfl⟩ (fun _ => mk_int) hd
theorem de_gs {x : Str} {z : List Nat} {y : Str} (h : ∃ t, X.mg x = some (.str y t)) (hy : y = tx z) (hg : Gl X x) (hd : (x == ("__debug__" : Str)) = false := by decide) : DE X T W (.Name x pos) (dC (.str z)) := by
  subst hy
  obtain ⟨t, h⟩ := h
  exact de_glob (v := .str (tx z)) hg h ⟨t, rfl⟩ (fun _ => mk_str) hd
/-- a built-in class as a value -/
theorem de_ty {x : Str} {n : String} (hg : Gl X x) (hm : X.mg x = none) (hv : bootBuiltins x = some (.type n)) (hn : x ≠ "__name__" := by decide) (hdb : (x == ("__debug__" : Str)) = false := by decide) : DE X T W (.Name x pos) (dC (.ty n)) := by
  exact de_c (v := .ty n) (pe_bltn hg hm hv rfl hn hdb) fun _ => by simp only [Rep]
/-- x in D, x not in D, D[x] for a dict D of the module -/
def dInC (f : List Nat → Option D) (neg : Bool) (ma : ME) : ME := fun δ h Q E => ma δ h (fun d h1 => match d with | .str z => Q (.bl (xor neg (f z).isSome)) h1 | _ => False) E
def dIxC (f : List Nat → Option D) (mb : ME) : ME := fun δ h Q E => mb δ h (fun d h1 => match d with | .str z => ∃ v, f z = some v ∧ Q v h1 | _ => False) E
def HasKD (P : Program) (w : World) (K : PySem.W.Frag) (mg : Str → Option Value) (x : Str) (f : List Nat → Option D) : Prop := ∃ a, mg x = some (.ref a) ∧ (∃ es n, KDict K w a es n) ∧
  ∀ z, (f z = none ∧ PySem.W.nsIn K a (tx z) = some none) ∨ ∃ d v u, f z = some d ∧ PySem.W.nsIn K a (tx z) = some (some u) ∧ RelV v u ∧ ∀ H, Rep K H d v
theorem de_inC {x : Str} {f : List Nat → Option D} {a : Expr} {ma : ME} {p : Pos} (hD : HasKD X.prog X.w X.K X.mg x f) (hg : Gl X x) (ha : DE X T W a ma) (hd : (x == ("__debug__" : Str)) = false := by decide)
    (hm : behindInMarks .In (.Name x p) = false := by with_unfolding_all rfl) : DE X T W (.Compare a [.In] [.Name x p] pos) (dInC f false ma) := by
  obtain ⟨r, h1, h2, h3⟩ := hD
  refine pe_imp (pe_cmpR (or_inK (X := X) (T := T) (a := r) (f := f) ⟨h2, h3⟩) ha (pe_glob (v := .ref r) hg h1 rfl hd) hm) ?_
  rintro σ H Q ⟨δ, h, Q', E', rs, rh, q, k, kx⟩
  refine ⟨δ, h, _, E', rs, rh, q, fun v d H1 h1 x1 r1 rh1 q1 => ⟨d, .ref r, h1, Q', r1, mk_ref, rh1, ?_, k.after x1⟩, kx⟩
  cases d with
  | str z => exact ⟨rfl, q1⟩
  | _ => exact False.elim q1
theorem de_notInC {x : Str} {f : List Nat → Option D} {a : Expr} {ma : ME} {p : Pos} (hD : HasKD X.prog X.w X.K X.mg x f) (hg : Gl X x) (ha : DE X T W a ma) (hd : (x == ("__debug__" : Str)) = false := by decide)
    (hm : behindInMarks .NotIn (.Name x p) = false := by with_unfolding_all rfl) : DE X T W (.Compare a [.NotIn] [.Name x p] pos) (dInC f true ma) := by
  obtain ⟨r, h1, h2, h3⟩ := hD
  refine pe_imp (pe_cmpR (or_notInK (X := X) (T := T) (a := r) (f := f) ⟨h2, h3⟩) ha (pe_glob (v := .ref r) hg h1 rfl hd) hm) ?_
  rintro σ H Q ⟨δ, h, Q', E', rs, rh, q, k, kx⟩
  refine ⟨δ, h, _, E', rs, rh, q, fun v d H1 h1 x1 r1 rh1 q1 => ⟨d, .ref r, h1, Q', r1, mk_ref, rh1, ?_, k.after x1⟩, kx⟩
  cases d with
  | str z => exact ⟨rfl, q1⟩
  | _ => exact False.elim q1
theorem dt_notInC {x : Str} {f : List Nat → Option D} {a : Expr} {ma : ME} {p : Pos} (hD : HasKD X.prog X.w X.K X.mg x f) (hg : Gl X x) (ha : DE X T W a ma) (hd : (x == ("__debug__" : Str)) = false := by decide)
    (hm : behindInMarks .NotIn (.Name x p) = false := by with_unfolding_all rfl) : DT X T W (.Compare a [.NotIn] [.Name x p] pos) (dTest (dInC f true ma)) := by
  obtain ⟨r, h1, h2, h3⟩ := hD
  refine pt_imp (pt_cmpR (or_notInK (X := X) (T := T) (a := r) (f := f) ⟨h2, h3⟩) ha (pe_glob (v := .ref r) hg h1 rfl hd) hm) (up_test ?_)
  rintro σ H Q ⟨δ, h, Q', E', rs, rh, q, k, kx⟩
  refine ⟨δ, h, _, E', rs, rh, q, fun v d H1 h1 x1 r1 rh1 q1 => ⟨d, .ref r, h1, Q', r1, mk_ref, rh1, ?_, k.after x1⟩, kx⟩
  cases d with
  | str z => exact ⟨rfl, q1⟩
  | _ => exact False.elim q1
theorem de_ixC {x : Str} {f : List Nat → Option D} {b : Expr} {mb : ME} {p : Pos} (hD : HasKD X.prog X.w X.K X.mg x f) (hg : Gl X x) (hb : DE X T W b mb) (hs : PlainIx b) (hd : (x == ("__debug__" : Str)) = false := by decide) : DE X T W (.Subscript (.Name x p) b pos) (dIxC f mb) := by
  obtain ⟨r, h1, h2, h3⟩ := hD
  refine pe_imp (pe_ix (ix_K (X := X) (T := T) (a := r) (f := f) ⟨h2, h3⟩) (pe_glob (v := .ref r) hg h1 rfl hd) hb hs) ?_
  rintro σ H Q ⟨δ, h, Q', E', rs, rh, q, k, kx⟩
  refine ⟨δ, h, _, E', rs, rh, q, fun v d H1 h1 x1 r1 rh1 q1 => ⟨.ref r, d, h1, Q', mk_ref, r1, rh1, ?_, k.after x1⟩, kx⟩
  cases d with
  | str z => exact ⟨rfl, q1⟩
  | _ => exact False.elim q1
/-! enumerate(xs) of a list -/
def enumD (ds : List D) : List D := ds.mapIdx fun i d => .tup [.int (i : Nat), d]
def dIEnum (ms : MA) : MI := fun δ h R E => ms δ h (fun xs h1 => match xs with
  | [.ref a] => ∃ ds, h1 a = some (.lst ds) ∧ R (enumD ds) (fun h => h a = some (.lst ds)) h1
  | [.tup ds] => R (enumD ds) (fun _ => True) h1
  | _ => False) E
theorem it_enum {H0 : Hp} {a : Addr} {ds : List D} : ItOk (cn X T) H0 (Ite X.K a) (enumD ds) (fun h => h a = some (.lst ds)) := by
  refine ⟨fun i H h _ rh ok hi => ?_, fun i H x H' h d _ rh ok hd y => ?_, fun H h _ rh ok => ?_⟩
  · obtain ⟨ys, b1, b2⟩ := rh.at_ _ _ ok
    have hl := b2.length
    have hi' : i < ds.length := by simpa [enumD] using hi
    exact ⟨ys, ys[i], .inl (.inl b1), by rw [List.getElem?_eq_getElem (by omega)]⟩
  · obtain ⟨ys, b1, b2⟩ := rh.at_ _ _ ok
    obtain ⟨p, z, e1, n, e2, e3⟩ := y
    have q := e3 ys (.inl (.inl b1))
    unfold enumD at hd
    rw [List.getElem?_mapIdx] at hd
    cases ed : ds[i]? with
    | none => rw [ed] at hd; cases hd
    | some d0 =>
      rw [ed] at hd
      cases hd
      obtain ⟨v, c1, c2⟩ := b2.get ed
      rw [q] at c1
      cases c1
      subst e1 e2
      obtain ⟨rh2, x2⟩ := rh.hid (u := .tup [.int (i : Nat), z]) n
      exact ⟨mk_tup (.inl upd_same) (Reps.cons mk_int (Reps.one (Rep.keep (keeps_new n) _ _ c2))), rh2, x2⟩
  · obtain ⟨ys, b1, b2⟩ := rh.at_ _ _ ok
    exact ⟨ys, .inl (.inl b1), by rw [b2.length]; simp [enumD]⟩
theorem it_enumT {H0 : Hp} {a : Addr} {ds : List D} {xs : List V} (t : Tp X.K H0 a xs) (r : Reps X.K H0 ds xs) : ItOk (cn X T) H0 (IteT X.K a) (enumD ds) (fun _ => True) := by
  refine ⟨fun i H h kp rh _ hi => ?_, fun i H x H' h d kp rh _ hd y => ?_, fun H h kp rh _ => ?_⟩
  · have hl := r.length
    have hi' : i < ds.length := by simpa [enumD] using hi
    exact ⟨xs, xs[i], (t.keep kp).sqt, by rw [List.getElem?_eq_getElem (by omega)]⟩
  · obtain ⟨p, z, e1, n, e2, e3⟩ := y
    have q := e3 xs (t.keep kp).sqt
    unfold enumD at hd
    rw [List.getElem?_mapIdx] at hd
    cases ed : ds[i]? with
    | none => rw [ed] at hd; cases hd
    | some d0 =>
      rw [ed] at hd
      cases hd
      obtain ⟨v, c1, c2⟩ := (Reps.keep kp _ _ r).get ed
      rw [q] at c1
      cases c1
      subst e1 e2
      obtain ⟨rh2, x2⟩ := rh.hid (u := .tup [.int (i : Nat), z]) n
      exact ⟨mk_tup (.inl upd_same) (Reps.cons mk_int (Reps.one (Rep.keep (keeps_new n) _ _ c2))), rh2, x2⟩
  · exact ⟨xs, (t.keep kp).sqt, by rw [r.length]; simp [enumD]⟩
theorem di_enum {e : Expr} {ms : MA} {p pos tpos : Pos} {elts : List Expr} {kk : Nat} (hg : Gl X "enumerate") (hm : X.mg "enumerate" = none) (ha : DA X T W [e] ms) (hs : starEach [e] X.env = [(false, eval e X.env)] := by rfl) : DI X T W (.Tuple elts kk tpos) (.Call (.Name "enumerate" p) [e] [] pos) (dIEnum ms) := by
  refine pi_imp (pi_enum2 hg hm ha hs) ?_
  rintro σ H R ⟨δ, h, R', E', rs, rh, q, k, kx⟩
  refine ⟨δ, h, _, _, rs, rh, q, fun vs ds H1 h1 x1 r1 rh1 q1 => ?_, kx⟩
  match ds, q1, r1 with
  | [.ref a], ⟨ds, e, q1⟩, r1 =>
    obtain ⟨v, ev, r2⟩ := reps1 r1
    obtain ⟨xs, sq, _, _⟩ := sql_lst rh1 e
    exact ⟨a, xs, by rw [ev, rel_ref r2], .inl ⟨sq, k _ _ _ H1 h1 x1 rh1 it_enum q1⟩⟩
  | [.tup ds], q1, r1 =>
    obtain ⟨v, ev, r2⟩ := reps1 r1
    obtain ⟨a, xs, e1, t1, a2⟩ := rel_tup r2
    exact ⟨a, xs, by rw [ev, e1], .inr ⟨t1.sqt, k _ _ _ H1 h1 x1 rh1 (it_enumT t1 a2) q1⟩⟩
/-! side conditions by computing -/
def visB (sc : Scope) (x : Str) : Bool := match sc.names.lookup x with
  | some .local => true
  | some .cell => true
  | some .free => true
  | _ => false
theorem vis_by {sc : Scope} {x : Str} (h : visB sc x = true) : Vis sc x := by
  unfold visB at h
  split at h <;> first
    | exact .inl (by assumption)
    | exact .inr (.inl (by assumption))
    | exact .inr (.inr (by assumption))
    | cases h
def locB (sc : Scope) (x : Str) : Bool := match sc.names.lookup x with
  | some .local => true
  | some .cell => true
  | _ => false
theorem loc_by {sc : Scope} {x : Str} (h : locB sc x = true) : Loc sc x := by
  unfold locB at h
  split at h <;> first
    | exact .inl (by assumption)
    | exact .inr (by assumption)
    | cases h
theorem bt_len : bootBuiltins "len" = some (.builtin "len") := by decide +kernel
theorem bt_all : bootBuiltins "all" = some (.builtin "all") := by decide +kernel
theorem bt_any : bootBuiltins "any" = some (.builtin "any") := by decide +kernel
theorem bt_min : bootBuiltins "min" = some (.builtin "min") := by decide +kernel
theorem bt_max : bootBuiltins "max" = some (.builtin "max") := by decide +kernel
theorem bt_sum : bootBuiltins "sum" = some (.builtin "sum") := by decide +kernel
theorem bt_repr : bootBuiltins "repr" = some (.builtin "repr") := by decide +kernel
theorem bt_sorted : bootBuiltins "sorted" = some (.builtin "sorted") := by decide +kernel
theorem bt_int : bootBuiltins "int" = some (.type "int") := by decide +kernel
theorem bt_bool : bootBuiltins "bool" = some (.type "bool") := by decide +kernel
theorem bt_str : bootBuiltins "str" = some (.type "str") := by decide +kernel
theorem bt_list : bootBuiltins "list" = some (.type "list") := by decide +kernel
theorem bt_tuple : bootBuiltins "tuple" = some (.type "tuple") := by decide +kernel
theorem bt_isi : bootBuiltins "isinstance" = some (.builtin "isinstance") := by decide +kernel
/-! isinstance(x, T), T a built-in class -/
inductive Ty5 where
  | int | str | bool | tup | lst
def Ty5.nm : Ty5 → String
  | .int => "int" | .str => "str" | .bool => "bool" | .tup => "tuple" | .lst => "list"
def isA (t : Ty5) (d : D) (h : DHp) : Option Bool := match d with
  | .non => some false
  | .bl _ => (match t with | .int => some true | .bool => some true | _ => some false)
  | .int _ => (match t with | .int => some true | _ => some false)
  | .str _ => (match t with | .str => some true | _ => some false)
  | .tup _ => (match t with | .tup => some true | _ => some false)
  | .scr _ => (match t with | .lst => some true | _ => some false)
  | .ref a => (match h a with
    | some (.lst _) => (match t with | .lst => some true | _ => some false)
    | some (.dct _) => some false
    | _ => none)
  | .ty _ => none
  | .fn _ => none
theorem isA_ty {t : Ty5} {d : D} {h : DHp} {b : Bool} (e : isA t d h = some b) : ∃ n, tyOfD d h = some n ∧ b = isTy n t.nm := by
  cases d with
  | ref a =>
    simp only [isA, tyOfD] at e ⊢
    cases q : h a with
    | none => simp [q] at e
    | some o => cases o <;> simp only [q, reduceCtorEq] at e ⊢ <;> refine ⟨_, rfl, ?_⟩ <;> cases t <;> cases e <;> rfl
  | ty n => cases e
  | fn n => cases e
  | _ => refine ⟨_, rfl, ?_⟩ <;> cases t <;> cases e <;> rfl
def dIsA (t : Ty5) (m : ME) : ME := fun δ h Q E => m δ h (fun d h1 => ∃ b, isA t d h1 = some b ∧ Q (.bl b) h1) E
theorem de_isA {t : Ty5} {x : Str} {p p2 : Pos} (bt : bootBuiltins x = some (.type t.nm)) (hg2 : Gl X x) (hm2 : X.mg x = none) (hg : Gl X "isinstance") (hm : X.mg "isinstance" = none) (he : DE X T W e m) (hn : x ≠ "__name__" := by decide) (hdb : (x == ("__debug__" : Str)) = false := by decide)
    (h1 : starEach (e :: [.Name x p2]) X.env = (false, eval e X.env) :: starEach [.Name x p2] X.env := by rfl) (h2 : starEach [.Name x p2] X.env = (false, eval (.Name x p2) X.env) :: starEach [] X.env := by rfl) (hpl : (backTo pos (starEach [.Name x p2] X.env)).any (·.1) = false := by rfl) :
    DE X T W (.Call (.Name "isinstance" p) [e, .Name x p2] [] pos) (dIsA t m) := by
  refine pe_imp (pe_callB (x := "isinstance") call_isi hg hm bt_isi (pa_cons he (pa_cons (pe_bltn (v := .ty t.nm) hg2 hm2 bt rfl hn hdb) pa_nil h2) h1) (by decide) (by decide) h1 hpl) ?_
  rintro σ H Q ⟨δ, h, Q', E', rs, rh, q, k, kx⟩
  refine ⟨δ, h, _, E', rs, rh, q, fun v d H1 h1 x1 r1 rh1 q1 => ?_, kx⟩
  show rIsi X.K [v, .ty t.nm] H1 Q
  obtain ⟨b, ea, q1⟩ := q1
  obtain ⟨n, e1, e2⟩ := isA_ty ea
  have hm5 : t.nm ∈ ["int", "bool", "str", "tuple", "list"] := by cases t <;> simp [Ty5.nm]
  subst e2
  exact ⟨v, _, _, _, _, rfl, .ty _, tyX_of r1 rh1 e1, kit_all _ n t.nm (tyOfD_in e1) hm5, k _ _ _ _ x1 mk_bl rh1 q1⟩
/-- room, as numbers -/
theorem hu_of {k : Nat} {A : Around} (r : Room k A) : A.units + 65 < cLine := by have := r.un; omega
theorem hu_64 {n : Nat} (h : n + 65 < cLine) : n + 64 < cLine := by omega
theorem hu_8 {n : Nat} (h : n + 65 < cLine) : n + 8 < cLine := by omega
end
end Tw
/-! Defs with lambdas; the law's def, at whose call no repr runs; the end. -/
namespace Tw
open PySem PySem.Spec PyProof.Rows L2
/-- a def's promise where no repr is under way -/
structure FnG (P : Program) (w : World) (K : PySem.W.Frag) (mg : Str → Option Value) (base : Heap) (CX : CXT) (k : Nat) (f : Addr) (fd : FuncData) (ps : List Str) (sp : Sp) : Prop where
  run : ∀ (A : Around) (outer : List Env) (s : Shared) (H : Hp) (args : Args) (us : List Value) (vs : List V) (Q : VK) (E : XK), Room k A → A.guards = some [] → Env0 P w K mg base A outer s H → BindsTo s fd args (ps.zip us) → Vals vs us → sp vs H Q E →
    codeAny (model P w) A (.call (.ref f) args) (CR CX outer P w H s Q E) s
section
variable {P : Program} {w : World} {K : PySem.W.Frag} {mg : Str → Option Value} {base : Heap} {x qual : Str} {params : Arguments} {body : List Stmt} {scope : Scope} {fd : FuncData} {N ps : List Str} {k : Nat} {sp : SpD} {T : Tb} {at_ : He.Defn}
abbrev lamCode (K : PySem.W.Frag) (at_ : He.Defn) : Value := .ref (He.cT K at_).1
/-- the code object of a def that the head tells of -/
theorem code_at (F : FunD K x qual params body scope [] [] (He.fAd K at_) fd) : ∃ oc od osl dV kV doc pm an ct, fd = PySem.W.fnOf x qual params body scope dV kV doc pm an (lamCode K at_) ct ∧ K.lookup (He.fAd K at_) = some ⟨oc, od, .func (PySem.W.fnOf x qual params body scope dV kV doc pm an (lamCode K at_) ct), osl⟩ ∧ PySem.W.codeIn K (lamCode K at_) qual = true := by
  obtain ⟨oc, od, dV, kV, doc, pm, an, cdv, ct, osl, e, lk, hcd, _, _⟩ := F.ex
  obtain ⟨c, ec⟩ := He.codeIn_ref hcd
  subst ec
  have e2 : He.codeOf K at_ = c := He.codeOf_eq (fd := fd) lk (by rw [e])
  have e3 : lamCode K at_ = .ref c := congrArg Value.ref e2
  rw [e3]
  subst e
  exact ⟨oc, od, osl, dV, kV, doc, pm, an, ct, rfl, lk, hcd⟩
abbrev cxL (P : Program) (w : World) (K : PySem.W.Frag) (mg : Str → Option Value) (base : Heap) (N : List Str) (qual : Str) (scope : Scope) (at_ : He.Defn) (A : Around) (outer : List Env) (s : Shared) (H : Hp) (E : XK) : Cx :=
  cxOf (L2.CX P w) P w K mg base N qual scope (He.fAd K at_) (lamCode K at_) A outer s H E
/-- the body's judgement, with what the context gives -/
def BodyL (P : Program) (w : World) (K : PySem.W.Frag) (mg : Str → Option Value) (base : Heap) (N ps : List Str) (qual : Str) (scope : Scope) (body : List Stmt) (at_ : He.Defn) (T : Tb) (k : Nat) (sp : SpD) (G : Around → Prop) : Prop :=
  ∀ (A : Around) (outer : List Env) (s : Shared) (H : Hp) (E : XK), Room k (A.deeper (envOfC qual scope s.heap.objs.size (He.fAd K at_) (lamCode K at_))) → G (A.deeper (envOfC qual scope s.heap.objs.size (He.fAd K at_) (lamCode K at_))) →
    Takes (cxL P w K mg base N qual scope at_ A outer s H E) (fun cls d _ H => E cls d H) →
    PassesOwn (model P w) (A.deeper (envOfC qual scope s.heap.objs.size (He.fAd K at_) (lamCode K at_))) (envOfC qual scope s.heap.objs.size (He.fAd K at_) (lamCode K at_)) (cxL P w K mg base N qual scope at_ A outer s H E).xe →
    ∃ m, DSs (cxL P w K mg base N qual scope at_ A outer s H E) T (fun cls d _ H => E cls d H) body m ∧
      ∀ ds h Q' E', ds.length = ps.length → sp ds h Q' E' → m (endsD Q' E') (startD N ds) h
theorem body_run {G : Around → Prop} (hb : BodyL P w K mg base N ps qual scope body at_ T k sp G) {A : Around} {outer : List Env} {s : Shared} {H : Hp} {vs : List V} {Q : VK} {E : XK} (hr : Room k (A.deeper (envOfC qual scope s.heap.objs.size (He.fAd K at_) (lamCode K at_))))
    (hg : G (A.deeper (envOfC qual scope s.heap.objs.size (He.fAd K at_) (lamCode K at_)))) (h : lift ⟨K, w, T⟩ ps.length sp vs H Q E) :
    ∃ t, PSs (cxL P w K mg base N qual scope at_ A outer s H E) body t ∧ t { nx := fun _ H' => Q .non H', rt := Q } (L2.start N vs) H := by
  obtain ⟨ds, h, Q', E', hn, r, rh, q, k1, k2⟩ := h
  obtain ⟨m, hm, hq⟩ := hb A outer s H E hr hg (takes_of rfl rfl rfl rfl) (passes_of rfl)
  exact ⟨_, hm, startD N ds, h, _, start_rel r, rh, hq ds h Q' E' hn q, ends_bk k1 k2⟩
theorem fnL (F : FunD K x qual params body scope [] [] (He.fAd K at_) fd) (S : FnScope N ps scope) (hb : BodyL P w K mg base N ps qual scope body at_ T k sp fun _ => True) :
    FnOk P w K mg base (L2.CX P w) (k + 1) (He.fAd K at_) fd ps (lift ⟨K, w, T⟩ ps.length sp) := by
  obtain ⟨oc, od, osl, dV, kV, doc, pm, an, ct, e, lk, hcd⟩ := code_at F
  subst e
  exact fn_of lk hcd S (fun vs H Q E hh => by obtain ⟨ds, h, Q', E', hn, r, _⟩ := hh; rw [r.length, hn]) fun A outer s H vs Q E hr hsp => body_run hb hr True.intro hsp
theorem fnG (F : FunD K x qual params body scope [] [] (He.fAd K at_) fd) (S : FnScope N ps scope) (hb : BodyL P w K mg base N ps qual scope body at_ T k sp fun A => A.guards = some []) :
    FnG P w K mg base (L2.CX P w) (k + 1) (He.fAd K at_) fd ps (lift ⟨K, w, T⟩ ps.length sp) := by
  obtain ⟨oc, od, osl, dV, kV, doc, pm, an, ct, e, lk, hcd⟩ := code_at F
  subst e
  refine ⟨fun A outer s H args us vs Q E hr hg e0 hbd rv hsp => ?_⟩
  have hl : vs.length = ps.length := by
    obtain ⟨ds, h, Q', E', hn, r, _⟩ := hsp
    rw [r.length, hn]
  exact LamX.run_ofS lk hcd S hr e0 hbd rv hl fun hr' => body_run hb hr' hg hsp
end
/-! ### repr -/
def bRepr : RC := fun ds h Q => match ds with
  | [d] => ∃ p, Py h d p ∧ p.showable = true ∧ p.hasDict = false ∧ p.depth ≤ 60 ∧ p.shown.length ≤ sizeLine ∧ Q (.str p.shown.cps.toList) h
  | _ => False
theorem tx_cps (x : Str) : tx x.cps.toList = x := by cases x; simp [tx]
theorem cd_repr {X : Cx} {T : Tb} (hg : X.A.guards = some []) (hu : X.A.units + 65 < cLine) : CD X T (.builtin "repr") bRepr := by
  intro pins s σ H vs us Q I rv hh
  obtain ⟨ds, h, Q', r, rh, q, k⟩ := hh
  match ds, q, r with
  | [d], ⟨p, py, h1, h2, h3, h4, q⟩, r =>
    obtain ⟨v, ev, r1⟩ := reps1 r
    subst ev
    obtain ⟨u, eu, ru⟩ := vals1 rv
    subst eu
    have fin : ∀ {s' : Shared} {t : Tok}, Inv X pins σ H s' → EP X pins σ Q (.str p.shown t) s' := fun {s' t} I' => by
      have z := k.here (v := .str (tx p.shown.cps.toList)) mk_str rh q
      rw [tx_cps] at z
      exact ⟨.str _, H, I', ⟨t, rfl⟩, z⟩
    have heap : ∀ {a : Addr} {as : List Addr}, Reads s.heap (.ref a) p as → wpAny (model X.prog X.w) X.A (call (.builtin "repr") [.ref a]) (EP X pins σ Q) X.xe s := fun {a as} rd =>
      repr_of_reads' rd h1 (PyData.noDict_hsm h2) hg (by omega) (fun _ _ e => e) (fun h' u tk hk => fin (I.kept hk)) h4
    obtain ⟨as, rd⟩ := Dp.reads I p v u (py.dp rh _ _ _ r1) ru
    cases py with
    | non => rw [rel_non r1] at ru; cases ru; exact PySem.P.repr_of_none (fin (I.tok _))
    | bl b => rw [rel_bl r1] at ru; cases ru; exact PySem.P.repr_of_bool (fin (I.tok _))
    | int i => rw [rel_int r1] at ru; obtain ⟨t, rfl⟩ := ru; exact PySem.P.repr_of_int (of_decide_eq_true h1) (fin (I.tok _))
    | str x => rw [rel_str r1] at ru; obtain ⟨t, rfl⟩ := ru; exact PySem.P.repr_of_str (fin (I.tok _)) h4
    | lst e q => rw [rel_ref r1] at ru; obtain rfl := (show u = Value.ref _ from ru); exact heap rd
    | tup q =>
      obtain ⟨a, xs, e, _⟩ := rel_tup r1
      subst e
      obtain rfl := (show u = Value.ref _ from ru)
      exact heap rd
/-! ### the law's call -/
/-- tracked ahead of the law: the tables, and the script where it is not the module's own -/
def hp0 (cs : List (Addr × Addr)) (sc : Option (Addr × Obj × List V)) : Hp := fun b => match sc with
  | some (a, o, xs) => if b = a then some (.frz o (.lst xs)) else if b ∈ cs.map (·.2) then some (.tbl #[]) else none
  | none => if b ∈ cs.map (·.2) then some (.tbl #[]) else none
theorem hp0_cases {cs : List (Addr × Addr)} {sc : Option (Addr × Obj × List V)} (b : Addr) : (hp0 cs sc b = none) ∨ (b ∈ cs.map (·.2) ∧ hp0 cs sc b = some (.tbl #[])) ∨ ∃ o xs, sc = some (b, o, xs) ∧ hp0 cs sc b = some (.frz o (.lst xs)) := by
  unfold hp0
  cases sc with
  | none =>
    by_cases h : b ∈ cs.map (·.2)
    · exact .inr (.inl ⟨h, if_pos h⟩)
    · exact .inl (if_neg h)
  | some z =>
    obtain ⟨a, o, xs⟩ := z
    by_cases e : b = a
    · subst e; exact .inr (.inr ⟨o, xs, rfl, if_pos rfl⟩)
    · by_cases h : b ∈ cs.map (·.2)
      · exact .inr (.inl ⟨h, (if_neg e).trans (if_pos h)⟩)
      · exact .inl ((if_neg e).trans (if_neg h))
section
variable {P : Program} {w : World} {K : PySem.W.Frag} {mg mb : Str → Option Value} {k : Nat} {fa a : Addr} {cs : List (Addr × Addr)} {fd : FuncData} {x : Str} {sp : Sp} {s₁ : Shared} {vs : List Value} {ns : List Int}
/-- where the tables are empty and the script is a list, the law's promise gives its answer -/
theorem law_G (KX : K.In s₁.heap) (hns : s₁.heap.Ns mainGlobals mg) (hb : s₁.heap.Ns builtinsNs mb) (hbb : ∀ x : Str, x ≠ "__name__" → mb x = bootBuiltins x) (hlim : s₁.heap.NoLimit) (hgen : s₁.gens = #[])
    (hT : ∀ p ∈ cs, s₁.heap.get? p.2 = some { cls := .none, data := .fields #[] }) (nT : ∀ p ∈ cs, K.lookup p.2 = none) (C : ∀ p ∈ cs, PySem.W.CodeHd s₁.heap p.1 p.2)
    (hbm : ∃ (bm : Addr) (ob : Obj), mg "__builtins__" = some (.ref bm) ∧ bm ≠ builtinsNs ∧ s₁.heap.get? bm = some ob ∧ ob.cls = .type "module" ∧ ob.dict = some builtinsNs ∧ ob.data = .plain)
    (ha : s₁.heap.get? a = some { cls := .type "list", data := .seq vs.toArray }) (hi : IntsAre vs ns) (hl : ns.length ≤ sizeLine) (hr : Room k callerA)
    (F : ∀ base : Heap, K.In base → base.Ns mainGlobals mg → (∀ p ∈ cs, LamX.TabB base mg p.1 p.2) → FnG P w K mg base (L2.CX P w) k fa fd [x] sp) (hbind : ∀ (s : Shared) (u : Value), BindsTo s fd ⟨[u], []⟩ [(x, u)])
    (hsp : ∀ H : Hp, (∀ p ∈ cs, H p.2 = some (.tbl #[])) → Rep K H (.scr ns) (.ref a) → sp [.ref a] H (fun v _ => v = .bl true) fun _ _ _ => False) :
    codeAny (model P w) callerA (.call (.ref fa) ⟨[.ref a], []⟩) (fun r s' => r = .ok (.ret (.bool true)) ∧ OldK s₁.heap s'.heap ∧ s'.os = s₁.os ∧ AllBare s'.gens) s₁ := by
  have rv := vals_ints hi
  have len := hi.length
  have tabObj : ∀ b ∈ cs.map (·.2), s₁.heap.get? b = some { cls := .none, data := .fields #[] } ∧ K.lookup b = none := fun b hb => by
    obtain ⟨p, hp, e⟩ := List.mem_map.mp hb
    subst e
    exact ⟨hT p hp, nT p hp⟩
  have aTab : a ∉ cs.map (·.2) := fun hm => by
    have e := (tabObj a hm).1
    rw [ha] at e
    cases e
  have main : ∀ sc : Option (Addr × Obj × List V), (∀ b o xs, sc = some (b, o, xs) → b = a ∧ o = { cls := .type "list", data := .seq vs.toArray } ∧ xs = ns.map V.int ∧ K.lookup a = none) → Rep K (hp0 cs sc) (.scr ns) (.ref a) →
      codeAny (model P w) callerA (.call (.ref fa) ⟨[.ref a], []⟩) (fun r s' => r = .ok (.ret (.bool true)) ∧ OldK s₁.heap s'.heap ∧ s'.os = s₁.os ∧ AllBare s'.gens) s₁ := by
    intro sc hsc rep
    generalize eH : hp0 cs sc = H at rep
    have kinds : ∀ b, H b = none ∨ (b ∈ cs.map (·.2) ∧ H b = some (.tbl #[])) ∨ (b = a ∧ H b = some (.frz { cls := .type "list", data := .seq vs.toArray } (.lst (ns.map V.int))) ∧ K.lookup a = none) := fun b => by
      rw [← eH]
      rcases hp0_cases (cs := cs) (sc := sc) b with e | e | ⟨o, xs, e1, e2⟩
      · exact .inl e
      · exact .inr (.inl e)
      · obtain ⟨q1, q2, q3, q4⟩ := hsc _ _ _ e1
        subst q2 q3
        exact .inr (.inr ⟨q1, e2, q4⟩)
    have tabH : ∀ p ∈ cs, H p.2 = some (.tbl #[]) := fun p hp => by
      have hm : p.2 ∈ cs.map (·.2) := List.mem_map.mpr ⟨p, hp, rfl⟩
      have ne : p.2 ≠ a := fun z => aTab (z ▸ hm)
      rw [← eH]
      unfold hp0
      cases sc with
      | none => exact if_pos hm
      | some z =>
        obtain ⟨b, o, xs⟩ := z
        obtain ⟨q1, _⟩ := hsc _ _ _ rfl
        subst q1
        exact (if_neg ne).trans (if_pos hm)
    have ok : HOk P w H s₁.heap := fun b u e => by
      rcases kinds b with z | ⟨hm, z⟩ | ⟨z1, z, _⟩
      · rw [z] at e; cases e
      · rw [z] at e; cases e; exact (tabObj b hm).1
      · rw [z] at e; cases e; subst z1; exact ⟨ha, by rw [List.length_map]; exact hl, vs, _, rv, ha⟩
    -- what is neither a list nor an empty table is hidden from none
    have seen : ∀ {b : Addr} {o : Obj}, s₁.heap.get? b = some o → (∀ us n, o.data ≠ .seq us n) → o.data ≠ .fields #[] → H b = none := fun {b o} e h1 h2 => by
      rcases kinds b with z | ⟨hm, _⟩ | ⟨z1, _, _⟩
      · exact z
      · rw [(tabObj b hm).1] at e; cases e; exact (h2 rfl).elim
      · subst z1; rw [ha] at e; cases e; exact (h1 _ _ rfl).elim
    have inBase : ∀ {b : Addr} {o : Obj}, s₁.heap.get? b = some o → H b = none → (hidT s₁.heap H).get? b = some o := fun e n => hidT_get e n
    have ns_ : ∀ {b : Addr} {m : Str → Option Value}, s₁.heap.Ns b m → (hidT s₁.heap H).Ns b m := fun {b m} ⟨o, es, ep, e, d, r⟩ => ⟨o, es, ep, inBase e (seen e (fun us n z => by rw [d] at z; cases z) fun z => by rw [d] at z; cases z), d, r⟩
    have kin : K.In (hidT s₁.heap H) := fun b o e => inBase (KX b o e) (by
      rcases kinds b with z | ⟨hm, _⟩ | ⟨z1, _, z3⟩
      · exact z
      · rw [(tabObj b hm).2] at e; cases e
      · subst z1; rw [z3] at e; cases e)
    have mod : L2.Mod K mg (hidT s₁.heap H) := ⟨kin, ns_ hns, ⟨mb, ns_ hb, hbb⟩, let ⟨m, h1, h2⟩ := hlim; ⟨m, ns_ h1, h2⟩⟩
    have tabs : ∀ p ∈ cs, LamX.TabB (hidT s₁.heap H) mg p.1 p.2 := fun p hp => by
      refine ⟨?_, ?_, fun z => ?_⟩
      · obtain ⟨o, us, f1, f2, f3, f4, f5, f6, f7, e1, r1, r2, r3, r⟩ := C p hp
        refine ⟨o, us, f1, f2, f3, f4, f5, f6, f7, inBase e1 (seen e1 (fun us n z => ?_) fun z => ?_), r1, r2, r3, r⟩
        · rw [r2] at z; cases z
        · rw [r2] at z; cases z; simp at r3
      · obtain ⟨bm, ob, b1, b2, b3, b4, b5, b6⟩ := hbm
        refine ⟨bm, ob, b1, b2, fun q => ?_, fun q => ?_, inBase b3 (seen b3 (fun us n z => ?_) fun z => ?_), b4, b5, b6⟩
        · obtain ⟨o, es, ep, e, hd, _⟩ := hns
          rw [q, e] at b3
          cases b3
          rw [hd] at b6
          cases b6
        · rw [q, hT p hp] at b3
          cases b3
          cases b6
        · rw [b6] at z; cases z
        · rw [b6] at z; cases z
      · obtain ⟨o, es, ep, e, hd, _⟩ := hns
        rw [z, hT p hp] at e
        cases e
        cases hd
    have e0 : Env0 P w K mg (hidT s₁.heap H) callerA [] s₁ H := ⟨rfl, mod, fun b o e => of_hidT e, Nat.le_of_eq (hidT_size _ _), trivial, fun b hb => absurd (show b ∈ ([] : List Addr) from hb) (by simp), ok, .of_eq hgen⟩
    have call := (F _ kin (ns_ hns) tabs).run callerA [] s₁ H ⟨[.ref a], []⟩ [.ref a] [.ref a] _ _ hr rfl e0 (hbind s₁ (.ref a)) (.cons rfl .nil) (hsp H tabH rep)
    refine codeAny_mono call fun r s' h => ?_
    cases r with
    | error e =>
      obtain ⟨_, _, _, _, _, _, _, _, _, _, _, _, z⟩ := h
      exact z.elim
    | ok fl =>
      cases fl with
      | ret u =>
        obtain ⟨v, H', os, bare, un, ok', r', q⟩ := h
        have q : v = .bl true := q
        subst q
        obtain rfl : u = Value.bool true := r'
        have old : ∀ b o, b ∉ cs.map (·.2) → s₁.heap.get? b = some o → s'.heap.get? b = some o := fun b o nb e => by
          rcases kinds b with z | ⟨hm, _⟩ | ⟨_, z, _⟩
          · exact un.keep b o e z (by simp [frs]) (by simp)
          · exact absurd hm nb
          · have z2 := un.frzs b _ _ z
            have e1 := (ok b _ z).1
            rw [e] at e1
            cases e1
            exact (ok' b _ z2).1
        have more : ∀ p ∈ cs, ∃ us : Array Value, s'.heap.get? p.2 = some { cls := .none, data := .fields us } := fun p hp => by
          obtain ⟨us, z⟩ := un.tbls p.2 #[] (tabH p hp)
          exact ⟨_, ok' p.2 _ z⟩
        refine ⟨rfl, ⟨fun b o e => ?_, fun b o e => ?_⟩, os, bare⟩
        · by_cases hm : b ∈ cs.map (·.2)
          · obtain ⟨p, hp, ep⟩ := List.mem_map.mp hm
            subst ep
            obtain ⟨us, hus⟩ := more p hp
            rw [hT p hp] at e
            cases e
            exact .inr (.inl ⟨((C p hp).tab (hT p hp)).isCodeTable, rfl, #[], us, rfl, by rw [Array.empty_append]; exact hus⟩)
          · exact .inl (old b o hm e)
        · by_cases hm : b ∈ cs.map (·.2)
          · obtain ⟨p, hp, ep⟩ := List.mem_map.mp hm
            subst ep
            obtain ⟨us, hus⟩ := more p hp
            exact ⟨_, hus⟩
          · exact ⟨o, old b o hm e⟩
      | _ => exact False.elim h
  cases hk : K.lookup a with
  | some o =>
    have e := KX a o hk
    rw [ha] at e
    cases e
    refine main none (fun b o xs z => by cases z) ?_
    simp only [Rep]
    exact ⟨a, rfl, .inr ⟨_, vs.toArray, _, hk, rfl, rfl, rfl, by rw [List.size_toArray, len]; exact hl, by simpa using rv⟩⟩
  | none =>
    refine main (some (a, { cls := .type "list", data := .seq vs.toArray }, ns.map V.int)) (fun b o xs z => by cases z; exact ⟨rfl, rfl, rfl, hk⟩) ?_
    simp only [Rep]
    exact ⟨a, rfl, .inl ⟨{ cls := .type "list", data := .seq vs.toArray }, if_pos rfl⟩⟩
end
/-- a def's lambdas' qualified name -/
abbrev lamQ (x : Str) : Str := (x ++ ".<locals>.") ++ "<lambda>"
/-- what the head tells of the law -/
def LawG (l : PySem.W.OpenLaw) (w : World) (K : PySem.W.Frag) (k n : Nat) (x : Str) (mg : Str → Option Value) (fa : Addr) (h : Heap) : Prop :=
  ∃ (fd : FuncData) (cs : List (Addr × Addr)) (sp : Sp), (∀ p ∈ cs, h.get? p.2 = some { cls := .none, data := .fields #[] }) ∧ (∀ p ∈ cs, K.lookup p.2 = none) ∧ (∀ p ∈ cs, PySem.W.CodeHd h p.1 p.2) ∧ (∀ (s : Shared) (u : Value), BindsTo s fd ⟨[u], []⟩ [(x, u)]) ∧
    (∀ (H : Hp) (a : Addr) (ns : List Int), ns.length ≤ n → (∀ z ∈ ns, Builtin.Int.intBits z ≤ 1048576) → (∀ p ∈ cs, H p.2 = some (.tbl #[])) → Rep K H (.scr ns) (.ref a) → sp [.ref a] H (fun v _ => v = .bl true) fun _ _ _ => False) ∧
    ∀ base : Heap, K.In base → base.Ns mainGlobals mg → (∀ p ∈ cs, LamX.TabB base mg p.1 p.2) → FnG l.prog w K mg base (L2.CX l.prog w) k fa fd [x] sp
theorem walk_G {l : PySem.W.OpenLaw} {n k : Nat} {q : Program} {loose : List Str} {XP : (Str → Option Value) → Heap → Prop} {YP : World → Heap → Prop} {d : DefRec} {x : Str} (hn : l.most = some n) (hn2 : n ≤ sizeLine) (hdf : d.params.defaults = []) (hr : Room k callerA)
    (F : ∀ (w : World) (mg : Str → Option Value) (fa : Addr) (h : Heap), YP w h → h.Ns mainGlobals mg → mg d.name = some (.ref fa) → ∃ K : PySem.W.Frag, K.In h ∧ LawG l w K k n x mg fa h) : PySem.W.WalkO q loose XP YP l.row.toRowW d [] (fun f vs => PySem.call f vs) := by
  refine Att.attach_callB hn hdf fun w s₀ s₁ mg mb fa o pm cd doc a vs ns G Y ho hd hcd hmg hobj hints hlen hbits hg => ?_
  obtain ⟨K, KX, fd, cs, sp, hT, nT, C, hb, hsp, hF⟩ := F w mg fa _ Y G.T.g hmg
  exact law_G KX G.T.g G.T.b G.T.builtins G.T.nolimit hg hT nT C G.T.bmain hobj hints (Nat.le_trans hlen hn2) hr hF hb fun H hH rep => hsp H a ns hlen hbits hH rep
end Tw
/-! The meanings, unfolded where the values' kinds are known. -/
namespace Tw
open PySem PySem.Spec PyProof.Rows L2
/-- of a list that stands there -/
def onL (o : Option DO) (k : List D → Prop) : Prop := match o with
  | some (.lst xs) => k xs
  | _ => False
theorem onL_lst {xs : List D} {k : List D → Prop} : onL (some (.lst xs)) k = k xs := rfl
theorem exL {o : Option DO} {k : List D → Prop} : (∃ xs, o = some (.lst xs) ∧ k xs) = onL o k := by
  apply propext
  constructor
  · rintro ⟨xs, e, q⟩; subst e; exact q
  · intro q
    cases o with
    | none => exact q.elim
    | some o => cases o with
      | lst xs => exact ⟨xs, rfl, q⟩
      | _ => exact q.elim
section
variable {h : DHp} {Q : DK} {E : DX} {a b : Addr} {i j : Int} {x y z : List Nat} {xs ys : List D} {d e : D} {p q : Bool} {k : Bool → Prop} {neg : Bool} {t : Ty5}
theorem onB_ : onB (.bl p) k = k p := rfl
-- isA
theorem isA_non : isA t .non h = some false := rfl
theorem isA_int_int : isA .int (.int i) h = some true := rfl
theorem isA_bool_int : isA .bool (.int i) h = some false := rfl
theorem isA_str_int : isA .str (.int i) h = some false := rfl
theorem isA_tup_int : isA .tup (.int i) h = some false := rfl
theorem isA_lst_int : isA .lst (.int i) h = some false := rfl
theorem isA_int_str : isA .int (.str x) h = some false := rfl
theorem isA_bool_str : isA .bool (.str x) h = some false := rfl
theorem isA_str_str : isA .str (.str x) h = some true := rfl
theorem isA_tup_str : isA .tup (.str x) h = some false := rfl
theorem isA_lst_str : isA .lst (.str x) h = some false := rfl
theorem isA_int_tup : isA .int (.tup xs) h = some false := rfl
theorem isA_bool_tup : isA .bool (.tup xs) h = some false := rfl
theorem isA_str_tup : isA .str (.tup xs) h = some false := rfl
theorem isA_tup_tup : isA .tup (.tup xs) h = some true := rfl
theorem isA_lst_tup : isA .lst (.tup xs) h = some false := rfl
theorem isA_int_bl : isA .int (.bl p) h = some true := rfl
theorem isA_bool_bl : isA .bool (.bl p) h = some true := rfl
theorem isA_str_bl : isA .str (.bl p) h = some false := rfl
theorem isA_tup_bl : isA .tup (.bl p) h = some false := rfl
theorem isA_lst_bl : isA .lst (.bl p) h = some false := rfl
-- operations
theorem dAdd_int : dAdd (.int i) (.int j) h Q = Q (.int (i + j)) h := rfl
theorem dAdd_str : dAdd (.str x) (.str y) h Q = (x.length + y.length ≤ sizeLine ∧ Q (.str (x ++ y)) h) := rfl
theorem dAdd_tup : dAdd (.tup xs) (.tup ys) h Q = (xs.length + ys.length ≤ sizeLine ∧ Q (.tup (xs ++ ys)) h) := rfl
theorem dAdd_ref : dAdd (.ref a) (.ref b) h Q = onL (h a) fun xs => onL (h b) fun ys => xs.length + ys.length ≤ sizeLine ∧ ∀ p, h p = none → Q (.ref p) (put h p (.lst (xs ++ ys))) := by
  rw [← exL]
  apply propext
  constructor
  · rintro ⟨xs, ys, e1, e2, q⟩; exact ⟨xs, e1, by rw [← exL]; exact ⟨ys, e2, q⟩⟩
  · rintro ⟨xs, e1, q⟩
    rw [← exL] at q
    obtain ⟨ys, e2, q⟩ := q
    exact ⟨xs, ys, e1, e2, q⟩
theorem dSub_int : dSub (.int i) (.int j) h Q = Q (.int (i - j)) h := rfl
theorem dLt_int : dLt (.int i) (.int j) h Q = Q (.bl (decide (i < j))) h := rfl
theorem dLe_int : dLe (.int i) (.int j) h Q = Q (.bl (decide (i ≤ j))) h := rfl
theorem dGt_int : dGt (.int i) (.int j) h Q = Q (.bl (decide (j < i))) h := rfl
theorem dGe_int : dGe (.int i) (.int j) h Q = Q (.bl (decide (j ≤ i))) h := rfl
theorem dMul_int : dMul (.int i) (.int j) h Q = (((-(2 ^ 64) < i ∧ i < 2 ^ 64) ∨ (-(2 ^ 64) < j ∧ j < 2 ^ 64)) ∧ Q (.int (i * j)) h) := rfl
theorem dMul_str : dMul (.str z) (.int j) h Q = ((j < 2 ^ 62 ∧ -(2 ^ 62) < j ∧ z.length * j.toNat ≤ sizeLine) ∧ Q (.str (repD j.toNat z)) h) := rfl
theorem dMul_ref : dMul (.ref a) (.int j) h Q = onL (h a) fun xs => (-(2 ^ 63) ≤ j ∧ j < 2 ^ 63 ∧ xs.length * j.toNat ≤ sizeLine) ∧ ∀ p, h p = none → Q (.ref p) (put h p (.lst (repD j.toNat xs))) := by rw [← exL]; rfl
theorem dMod_int : dMod (.int i) (.int j) h Q = (0 < j ∧ Q (.int (i % j)) h) := rfl
theorem dFdiv_int : dFdiv (.int i) (.int j) h Q = ((0 < j ∧ j < 1073741824) ∧ Q (.int (i / j)) h) := rfl
theorem dPow_int : dPow (.int i) (.int j) h Q = ((0 ≤ j ∧ j ≤ 1000000 ∧ i.natAbs < 2 ^ 64) ∧ Q (.int (i ^ j.toNat)) h) := rfl
theorem dIsN_ : dIsN d .non h Q = Q (.bl (isNon d)) h := by simp [dIsN]
theorem dNotN_ : dNotN d .non h Q = Q (.bl (!isNon d)) h := by simp [dNotN]
theorem isNon_int : isNon (.int i) = false := rfl
theorem isNon_non : isNon .non = true := rfl
theorem dEq_str : dEq (.str x) (.str y) h Q = Q (.bl (x == y)) h := rfl
theorem dEq_int : dEq (.int i) (.int j) h Q = Q (.bl (i == j)) h := rfl
theorem dNe_str : dNe (.str x) (.str y) h Q = Q (.bl (!(x == y))) h := rfl
theorem dNe_int : dNe (.int i) (.int j) h Q = Q (.bl (!(i == j))) h := rfl
theorem dIn_sign {c : Nat} : dIn neg (.str [c]) (.str y) h Q = Q (.bl (xor neg (decide (c ∈ y)))) h := rfl
-- subscripts
theorem dIx_str : dIx (.str x) (.int i) h Q = (x.length ≤ sizeLine ∧ ∃ c, atI x i = some c ∧ Q (.str [c]) h) := rfl
theorem dIx_tup : dIx (.tup xs) (.int i) h Q = ∃ d, atI xs i = some d ∧ Q d h := rfl
theorem dIx_scr {ns : List Int} : dIx (.scr ns) (.int i) h Q = ∃ n, atI ns i = some n ∧ Q (.int n) h := rfl
theorem dIx_ref : dIx (.ref a) (.int i) h Q = onL (h a) fun xs => ∃ d, atI xs i = some d ∧ Q d h := by
  rw [← exL]
  apply propext
  constructor
  · rintro ⟨xs, d, e1, e2, q⟩; exact ⟨xs, e1, d, e2, q⟩
  · rintro ⟨xs, e1, d, e2, q⟩; exact ⟨xs, d, e1, e2, q⟩
theorem dCut_str {lo hi : Option Int} : dCut (.str x) lo hi h Q = (x.length ≤ sizeLine ∧ Q (.str (cutD x lo hi)) h) := rfl
theorem dCut_tup {lo hi : Option Int} : dCut (.tup xs) lo hi h Q = Q (.tup (cutD xs lo hi)) h := rfl
theorem dCut_scr {ns : List Int} {lo hi : Option Int} : dCut (.scr ns) lo hi h Q = ∀ p, h p = none → Q (.ref p) (put h p (.lst ((cutD ns lo hi).map D.int))) := rfl
theorem dCut_ref {lo hi : Option Int} : dCut (.ref a) lo hi h Q = onL (h a) fun xs => ∀ p, h p = none → Q (.ref p) (put h p (.lst (cutD xs lo hi))) := by rw [← exL]; rfl
-- built-ins
theorem bLen_str : bLen [.str x] h Q = (x.length ≤ sizeLine ∧ Q (.int x.length) h) := rfl
theorem bLen_tup : bLen [.tup xs] h Q = Q (.int xs.length) h := by simp [bLen, itemsD]
theorem bLen_ref : bLen [.ref a] h Q = onL (h a) fun xs => Q (.int xs.length) h := by
  cases eo : h a with
  | none => simp [bLen, itemsD, onL, eo]
  | some o => cases o <;> simp [bLen, itemsD, onL, eo]
theorem bInt_int : bInt [.int i] h Q = Q (.int i) h := rfl
theorem bInt_bl : bInt [.bl p] h Q = Q (.int (if p then 1 else 0)) h := rfl
theorem bTup_tup : bTup [.tup xs] h Q = Q (.tup xs) h := by simp [bTup, itemsD]
theorem bTup_ref : bTup [.ref a] h Q = onL (h a) fun xs => Q (.tup xs) h := by
  cases eo : h a with
  | none => simp [bTup, itemsD, onL, eo]
  | some o => cases o <;> simp [bTup, itemsD, onL, eo]
theorem bList_str : bList [.str x] h Q = (x.length ≤ sizeLine ∧ ∀ p, h p = none → Q (.ref p) (put h p (.lst (x.map fun c => .str [c])))) := rfl
theorem bList_tup : bList [.tup xs] h Q = ∀ p, h p = none → Q (.ref p) (put h p (.lst xs)) := by simp [bList, itemsD]
theorem bList_ref : bList [.ref a] h Q = onL (h a) fun xs => ∀ p, h p = none → Q (.ref p) (put h p (.lst xs)) := by
  cases eo : h a with
  | none => simp [bList, itemsD, onL, eo]
  | some o => cases o <;> simp [bList, itemsD, onL, eo]
-- methods
theorem tyD_str {ty : String} : tyD ty (.str x) h = (ty = "str") := rfl
theorem mAppend_ref : mAppend (.ref a) [d] h Q = onL (h a) fun xs => xs.length < sizeLine ∧ Q .non (put h a (.lst (xs ++ [d]))) := by rw [← exL]; rfl
theorem mExtend_ref : mExtend (.ref a) [.ref b] h Q = onL (h a) fun xs => onL (h b) fun ys => xs.length + ys.length ≤ sizeLine ∧ Q .non (put h a (.lst (xs ++ ys))) := by
  rw [← exL]
  apply propext
  constructor
  · rintro ⟨xs, ys, e1, e2, q⟩; exact ⟨xs, e1, by rw [← exL]; exact ⟨ys, e2, q⟩⟩
  · rintro ⟨xs, e1, q⟩
    rw [← exL] at q
    obtain ⟨ys, e2, q⟩ := q
    exact ⟨xs, ys, e1, e2, q⟩
theorem tyL : tyD "list" (.ref a) h = onL (h a) fun _ => True := by
  cases eo : h a with
  | none => simp [tyD, onL, eo]
  | some o => cases o <;> simp [tyD, onL, eo]
theorem dSetL_ref {K : DHp → Prop} : dSetL (.ref a) (.int i) d h K = onL (h a) fun xs => ∃ j, ixN xs.length i = some j ∧ K (put h a (.lst (xs.set j d))) := by
  rw [← exL]
  apply propext
  constructor
  · rintro ⟨xs, j, e1, e2, q⟩; exact ⟨xs, e1, j, e2, q⟩
  · rintro ⟨xs, e1, j, e2, q⟩; exact ⟨xs, j, e1, e2, q⟩
theorem mJoin_ref : mJoin (.str x) [.ref a] h Q = onL (h a) fun xs => ∃ ys : List (List Nat), xs = ys.map D.str ∧ (ys.map List.length).sum + ys.length * x.length ≤ 16777216 ∧ Q (.str (joinD x ys)) h := by
  rw [← exL]
  unfold mJoin itemsD
  apply propext
  constructor
  · rintro ⟨ys, e, q⟩
    cases eo : h a with
    | none => simp [eo] at e
    | some o => cases o with
      | lst xs => simp only [eo, Option.some.injEq] at e; exact ⟨xs, rfl, ys, e, q⟩
      | _ => simp [eo] at e
  · rintro ⟨xs, e1, ys, e2, q⟩
    exact ⟨ys, by simp [e1, e2], q⟩
theorem bInts_ref {g : List Int → Int} {okI : List Int → Prop} : bInts g okI [.ref a] h Q = onL (h a) fun xs => ∃ ns : List Int, xs = ns.map D.int ∧ okI ns ∧ Q (.int (g ns)) h := by
  rw [← exL]
  unfold bInts listD
  apply propext
  constructor
  · rintro ⟨ns, e, q⟩
    cases eo : h a with
    | none => simp [eo] at e
    | some o => cases o with
      | lst xs => simp only [eo, Option.some.injEq] at e; exact ⟨xs, rfl, ns, e, q⟩
      | _ => simp [eo] at e
  · rintro ⟨xs, e1, ns, e2, q⟩
    exact ⟨ns, by simp [e1, e2], q⟩
theorem bMin_ref : bMin [.ref a] h Q = onL (h a) fun xs => ∃ ns : List Int, xs = ns.map D.int ∧ 0 < ns.length ∧ Q (.int (minI ns)) h := bInts_ref
theorem bMax_ref : bMax [.ref a] h Q = onL (h a) fun xs => ∃ ns : List Int, xs = ns.map D.int ∧ 0 < ns.length ∧ Q (.int (maxI ns)) h := bInts_ref
-- subscripts of small places
theorem ixN_lt {n : Nat} {k : Nat} (hk : k < n) : ixN n (k : Int) = some k := by
  unfold ixN
  rw [if_pos (by omega), if_pos (by omega)]
  simp
theorem atI_lt {α : Type} {l : List α} {k : Nat} {v : α} (e : l[k]? = some v) : atI l (k : Int) = some v := L2.atI_nat e
theorem atI_0 {α : Type} {v : α} {l : List α} : atI (v :: l) 0 = some v := atI_lt (k := 0) rfl
theorem atI_1 {α : Type} {u v : α} {l : List α} : atI (u :: v :: l) 1 = some v := atI_lt (k := 1) rfl
theorem atI_2 {α : Type} {u v w : α} {l : List α} : atI (u :: v :: w :: l) 2 = some w := atI_lt (k := 2) rfl
/-! what a def leaves behind -/
theorem less_none {g h : DHp} {u : Addr} (l : Less g h) (n : h u = none) : g u = none := by
  cases e : g u with
  | none => rfl
  | some o => rw [l u o e] at n; cases n
theorem less_upd {g h : DHp} {u : Addr} {o : DO} (l : Less g h) (n : g u = none) : Less g (put h u o) := fun a x e => by
  by_cases z : a = u
  · subst z; rw [n] at e; cases e
  · rw [put_ne z]; exact l a x e
theorem less_new {g h : DHp} {u : Addr} {o : DO} (l : Less g h) (n : h u = none) : Less g (put h u o) := less_upd l (less_none l n)
theorem less_both {g h : DHp} {u : Addr} {o : DO} (l : Less g h) : Less (put g u o) (put h u o) := fun a x e => by
  by_cases z : a = u
  · subst z; rw [put_same] at e ⊢; exact e
  · rw [put_ne z] at e ⊢; exact l a x e
theorem fgt_here {Q : DK} {v : D} {h : DHp} (q : Q v h) : Fgt Q v h := ⟨h, Less.refl, q⟩
theorem fgt_less {Q : DK} {v : D} {g h : DHp} (l : Less g h) (q : Q v g) : Fgt Q v h := ⟨g, l, q⟩
/-- a new object is handed back, behind what is forgotten -/
theorem fgt_new {Q : DK} {g h : DHp} {u : Addr} {o : DO} (l : Less g h) (n : h u = none) (q : ∀ r, g r = none → Q (.ref r) (put g r o)) : Fgt Q (.ref u) (put h u o) := ⟨put g u o, less_both l, q u (less_none l n)⟩
theorem rngD_mem {lo : Int} {n : Nat} {d : D} (h : d ∈ rngD lo n) : ∃ i : Nat, i < n ∧ d = .int (lo + i) := by
  unfold rngD at h
  obtain ⟨i, hi, e⟩ := List.mem_map.mp h
  exact ⟨i, by simpa using hi, e.symm⟩
theorem rngD_get {lo : Int} {n i : Nat} {d : D} (h : (rngD lo n)[i]? = some d) : i < n ∧ d = .int (lo + i) := by
  unfold rngD at h
  rw [List.getElem?_map] at h
  cases e : (List.range n)[i]? with
  | none => rw [e] at h; cases h
  | some j =>
    rw [e] at h
    obtain ⟨h1, h2⟩ := List.getElem?_eq_some_iff.mp e
    have hj : j = i := by simpa using h2.symm
    subst hj
    cases h
    exact ⟨by simpa using h1, rfl⟩
theorem rngD_len {lo : Int} {n : Nat} : (rngD lo n).length = n := by simp [rngD]
end
end Tw
/-! Defs of the program as values; calls of a name that holds one. -/
namespace Tw
open PySem PySem.Spec PyProof.Rows L2
/-- a def of the program at its own place, which keeps its promise -/
def HasV (P : Program) (w : World) (K : PySem.W.Frag) (mg : Str → Option Value) (base : Heap) (T : Tb) (k : Nat) (x : Str) (ps : List Str) (sp : SpD) : Prop :=
  ∃ fd, FnOk P w K mg base (L2.CX P w) k (He.fAd K (x, none)) fd ps (lift ⟨K, w, T⟩ ps.length sp) ∧ PySem.W.keepIn K (.ref (He.fAd K (x, none))) = true ∧ Binds K fd ps []
def HasVs (P : Program) (w : World) (K : PySem.W.Frag) (mg : Str → Option Value) (base : Heap) (T : Tb) (j : Nat) : List (Str × Nat × SpD) → Prop
  | [] => True
  | f :: fs => (∃ k ps, k ≤ j ∧ ps.length = f.2.1 ∧ HasV P w K mg base T k f.1 ps f.2.2) ∧ HasVs P w K mg base T j fs
/-- the one of that name -/
def pickF (x : Str) : List (Str × Nat × SpD) → Option (Nat × SpD)
  | [] => none
  | f :: fs => if f.1 = x then some f.2 else pickF x fs
theorem pick_has {P : Program} {w : World} {K : PySem.W.Frag} {mg : Str → Option Value} {base : Heap} {T : Tb} {j : Nat} {x : Str} {n : Nat} {sp : SpD} : ∀ {fs : List (Str × Nat × SpD)}, HasVs P w K mg base T j fs → pickF x fs = some (n, sp) → ∃ k ps, k ≤ j ∧ ps.length = n ∧ HasV P w K mg base T k x ps sp
  | [], _, e => by simp [pickF] at e
  | f :: fs, h, e => by
    unfold pickF at e
    split at e
    · rename_i q
      subst q
      obtain ⟨g, n', sp'⟩ := f
      simp only [Option.some.injEq, Prod.mk.injEq] at e
      obtain ⟨rfl, rfl⟩ := e
      exact h.1
    · exact pick_has h.2 e
def dCallV (i : Nat) (fs : List (Str × Nat × SpD)) (ms : MA) : ME := fun δ h Q E => match δ[i]? with
  | some (some (.fn x)) => (match pickF x fs with
    | some f => ms δ h (fun ds h1 => ds.length = f.1 ∧ f.2 ds h1 Q E) E
    | none => False)
  | _ => False
section
variable {X : Cx} {T : Tb} {W : WX} {j i : Nat} {x : Str} {p pos : Pos} {e : Expr} {es : List Expr} {ms : MA} {fs : List (Str × Nat × SpD)}
theorem de_fnV (hg : Gl X x) (hm : X.mg x = some (.ref (He.fAd X.K (x, none)))) (hd : (x == ("__debug__" : Str)) = false := by decide) : DE X T W (.Name x pos) (dC (.fn x)) :=
  de_glob (v := .ref (He.fAd X.K (x, none))) hg hm rfl (fun _ => by simp only [Rep]) hd
theorem de_callV (A : HasVs X.prog X.w X.K X.mg X.base T j fs) (hr : Room j X.A) (hN : X.N[i]? = some x) (hv : Vis X.env.scope x) (tk : Takes X W) (ha : DA X T W (e :: es) ms)
    (hdb : (x == ("__debug__" : Str)) = false := by decide) (hcd : (x == ("__classdict__" : Str)) = false := by decide)
    (he : starEach (e :: es) X.env = (false, eval e X.env) :: starEach es X.env := by rfl) (hpl : (backTo pos (starEach es X.env)).any (·.1) = false := by rfl) :
    DE X T W (.Call (.Name x p) (e :: es) [] pos) (dCallV i fs ms) := by
  refine ⟨fun pins s σ H Q I h => ?_⟩
  obtain ⟨δ, h, Q', E', rs, rh, q, kk, kx⟩ := h
  have z : ∃ y n sp, δ[i]? = some (some (.fn y)) ∧ pickF y fs = some (n, sp) ∧ ms δ h (fun ds h1 => ds.length = n ∧ sp ds h1 Q' E') E' := by
    unfold dCallV at q
    split at q
    · rename_i y e1
      split at q
      · rename_i f e2
        exact ⟨y, f.1, f.2, e1, e2, q⟩
      · exact q.elim
    · exact q.elim
  obtain ⟨y, n, sp, e1, e2, q⟩ := z
  obtain ⟨v, e3, r⟩ := rs.2 i _ e1
  simp only [Rep] at r
  subst r
  obtain ⟨k, ps, hk, hn, fd, F, hkp, hb⟩ := pick_has A e2
  subst hn
  refine wpAny_Call_Name_kw (thn ((pe_var (pos := p) hN hv hdb hcd).run pins s σ H (fun v H1 => v = .ref (He.fAd X.K (y, none)) ∧ H1 = H) I ⟨_, e3, rfl, rfl⟩) fun u s1 ⟨v, H1, I1, r1, q1⟩ => ?_)
  obtain ⟨rfl, rfl⟩ := q1
  cases r1
  refine PySem.W.callWith_K (h₀ := X.base) I.ok.mod.kin hkp (thn (ha.run pos pins s1 σ _ (fun vs H2 => lift ⟨X.K, X.w, T⟩ ps.length sp vs H2 Q (WE W σ)) I1 ⟨δ, h, _, E', rs, rh, q, fun vs ds H1 h1 x1 r1 rh1 q1 => ?_, kx⟩) fun us s2 ⟨vs, H2, I2, r, q⟩ => ⟨I2.kIn, ?_⟩) he hpl
  · exact ⟨ds, h1, Q', E', q1.1, r1, rh1, q1.2, kk.after x1, fun C H' h' x' rh' q' => kx C H' h' (x1.trans x') rh' q'⟩
  · exact run_fnSD F (hr.mono hk) hb .nil (passAt tk σ) I2 r (by rw [List.append_nil]; exact q)
end
end Tw
/-! More methods of texts; slices turned about. -/
namespace Tw
open PySem PySem.Spec PyProof.Rows L2
theorem sub_tx (a b : List Nat) (i : Nat) : Builtin.Str.subAt (tx a) (tx b) i = ((a.drop i).take b.length == b) := by
  unfold Builtin.Str.subAt
  rw [Bool.eq_iff_iff, beq_iff_eq, beq_iff_eq, tx_len]
  show (a.toArray.extract i (i + b.length)) = b.toArray ↔ _
  rw [List.extract_toArray, ← Array.toList_inj]
  simp [List.extract_eq_drop_take, List.take_drop]
theorem starts_tx (a b : List Nat) : Txt.startswith (tx a) (tx b) = b.isPrefixOf a := by
  unfold Txt.startswith
  rw [sub_tx, tx_len, tx_len, Bool.eq_iff_iff, Bool.and_eq_true, decide_eq_true_eq, beq_iff_eq, List.isPrefixOf_iff_prefix, List.prefix_iff_eq_take]
  simp only [List.drop_zero, Nat.zero_add]
  constructor
  · exact fun h => h.2.symm
  · intro h
    refine ⟨?_, h.symm⟩
    have := congrArg List.length h
    rw [List.length_take] at this
    omega
def mStarts : RM := fun d ds h Q => match d, ds with
  | .str a, [.str b] => Q (.bl (b.isPrefixOf a)) h
  | _, _ => False
theorem mStarts_str {a b : List Nat} {h : DHp} {Q : DK} : mStarts (.str a) [.str b] h Q = Q (.bl (b.isPrefixOf a)) h := rfl
section
variable {X : Cx} {T : Tb}
theorem md_startswith : MD X T "str.startswith" mStarts := by
  intro pins s σ H x vs v us Q I rx rv hh
  obtain ⟨d, ds, h, Q', rd, r, rh, q, k⟩ := hh
  match d, ds, q, rd, r with
  | .str a, [.str b], q, rd, r =>
    obtain ⟨w, ew, r1⟩ := reps1 r
    subst ew
    exact mt_startswith pins s σ H x _ v us Q I rx rv ⟨tx a, tx b, rel_str rd, by rw [rel_str r1], by rw [starts_tx]; exact k.here mk_bl rh q⟩
end
end Tw
/-! Comprehensions of two fors, over data. -/
namespace Tw
open PySem PySem.Spec PyProof.Rows L2
def LcI (p1 : Pat) (tt1 : MT) (me : ME) (vs1 : List Nat) (δ2 : DSt) (V : List D → DHp → Prop) (acc0 : List D) (ds1 : List D) (ok1 : DHp → Prop) (h4 : DHp) : Prop := ∃ V1 : Nat → List D → DHp → Prop, V1 0 acc0 h4 ∧ ∀ j acc h, V1 j acc h → ok1 h ∧
  (j = ds1.length → V acc h) ∧
  ∀ d1, ds1[j]? = some d1 → ∃ δ3, patB p1 d1 (dwipe δ2 vs1) = some δ3 ∧ tt1 δ3 h (fun b h5 => (b = true → me δ3 h5 (fun y h6 => acc.length < sizeLine ∧ V1 (j + 1) (acc ++ [y]) h6) nox) ∧ (b = false → V1 (j + 1) acc h5)) nox
def LcB2 (p : Pat) (tt : MT) (mi1 : MI) (p1 : Pat) (tt1 : MT) (me : ME) (vs vs1 : List Nat) (δ : DSt) (Q : DK) (ds : List D) (ok : DHp → Prop) (h1 : DHp) : Prop := ∃ V : Nat → List D → DHp → Prop, V 0 [] h1 ∧ ∀ i acc h, V i acc h → ok h ∧
  (i = ds.length → ∀ q, h q = none → Q (.ref q) (put h q (.lst acc))) ∧
  ∀ d, ds[i]? = some d → ∃ δ2, patB p d (dwipe δ vs) = some δ2 ∧ tt δ2 h (fun b h3 => (b = true → mi1 δ2 h3 (fun ds1 ok1 h4 => LcI p1 tt1 me vs1 δ2 (V (i + 1)) acc ds1 ok1 h4) nox) ∧
    (b = false → V (i + 1) acc h3)) nox
def dLc2 (mi : MI) (p : Pat) (tt : MT) (mi1 : MI) (p1 : Pat) (tt1 : MT) (me : ME) (vs vs1 : List Nat) : ME := fun δ h Q E => mi δ h (fun ds ok h1 => LcB2 p tt mi1 p1 tt1 me vs vs1 δ Q ds ok h1) E
/-- the inner turns by a map and a filter -/
theorem lcI_filter {p1 : Pat} {tt1 : MT} {me : ME} {vs1 : List Nat} {δ2 : DSt} {V : List D → DHp → Prop} {acc0 : List D} {ds : List D} {ok : DHp → Prop} {h : DHp} (g : D → Bool) (f : D → D) (hok : ok h) (hz : acc0.length + ds.length ≤ sizeLine)
    (he : ∀ d ∈ ds, ∃ δ3, patB p1 d (dwipe δ2 vs1) = some δ3 ∧ (∀ (K : Bool → DHp → Prop), K (g d) h → tt1 δ3 h K nox) ∧ (g d = true → ∀ K : DK, K (f d) h → me δ3 h K nox)) (q : V (acc0 ++ (ds.filter g).map f) h) : LcI p1 tt1 me vs1 δ2 V acc0 ds ok h := by
  refine ⟨fun i acc h' => h' = h ∧ i ≤ ds.length ∧ acc = acc0 ++ ((ds.take i).filter g).map f, ⟨rfl, Nat.zero_le _, by simp⟩, ?_⟩
  rintro i acc h' ⟨rfl, hi, rfl⟩
  refine ⟨hok, fun e => ?_, fun d hd => ?_⟩
  · subst e
    rw [List.take_length]
    exact q
  · obtain ⟨hlt, hd'⟩ := List.getElem?_eq_some_iff.mp hd
    obtain ⟨δ2, e1, e2, e3⟩ := he d (List.mem_of_getElem? hd)
    refine ⟨δ2, e1, e2 _ ⟨fun z => e3 z _ ⟨?_, rfl, hlt, ?_⟩, fun z => ⟨rfl, hlt, ?_⟩⟩⟩
    · rw [List.length_append, List.length_map]
      have := List.length_filter_le g (ds.take i)
      rw [List.length_take] at this
      omega
    · rw [← hd', List.take_succ_eq_append_getElem hlt, List.filter_append, List.map_append]
      rw [← hd'] at z
      simp [z]
    · rw [List.take_succ_eq_append_getElem hlt, List.filter_append, List.map_append]
      rw [← hd'] at z
      simp [z]
theorem lcI_map {p1 : Pat} {me : ME} {vs1 : List Nat} {δ2 : DSt} {V : List D → DHp → Prop} {acc0 : List D} {ds : List D} {ok : DHp → Prop} {h : DHp} (f : D → D) (hok : ok h) (hz : acc0.length + ds.length ≤ sizeLine)
    (he : ∀ d ∈ ds, ∃ δ3, patB p1 d (dwipe δ2 vs1) = some δ3 ∧ ∀ K : DK, K (f d) h → me δ3 h K nox) (q : V (acc0 ++ ds.map f) h) : LcI p1 dYes me vs1 δ2 V acc0 ds ok h := by
  refine lcI_filter (fun _ => true) f hok hz (fun d hd => ?_) (by rw [List.filter_eq_self.mpr (fun _ _ => rfl)]; exact q)
  obtain ⟨δ3, e1, e2⟩ := he d hd
  exact ⟨δ3, e1, fun K z => z, fun _ => e2⟩
section
variable {X : Cx} {T : Tb} {W : WX} {elt tg iter tg1 iter1 : Expr} {ifs ifs1 : List Expr} {scope : Scope} {own : List (Str × Nat)} {pos : Pos} {mi mi1 : MI} {p p1 : Pat} {tt tt1 : MT} {me : ME} {vs1 : List Nat}
theorem wipe_twice (σ : L2.St) : ∀ (l vs : List Nat), (∀ i ∈ l, i ∈ vs) → L2.wipe (L2.wipe σ l) vs = L2.wipe σ vs := by
  intro l
  induction l with
  | nil => intro vs _; rfl
  | cons a l ih =>
    intro vs hl
    show L2.wipe ((L2.wipe σ l).set a none) vs = _
    rw [wipe_set _ _ vs (hl a (by simp)), ih vs fun i hi => hl i (by simp [hi])]
theorem up_lc2 (hv : ∀ i ∈ patV p, i ∈ own.map (·.2)) (hv1 : ∀ i ∈ patV p1, i ∈ vs1) : ∀ σ H Q, up (cn X T) W (dLc2 mi p tt mi1 p1 tt1 me (own.map (·.2)) vs1) σ H Q →
    tLc2 (upI (cn X T) W mi) (patG X.K p) (upT (cn X T) WF tt) (upI (cn X T) WF mi1) (patG X.K p1) (upT (cn X T) WF tt1) (up (cn X T) WF me) (own.map (·.2)) vs1 σ H Q := by
  rintro σ H Q ⟨δ, h, Q', E', rs, rh, q, k, kx⟩
  refine ⟨δ, h, _, _, rs, rh, q, fun J ds ok H1 h1 x1 rh1 io q1 L nL => ?_, kx⟩
  obtain ⟨V, v0, turn⟩ := q1
  obtain ⟨rh1', x1'⟩ := rh1.hid (u := .lst []) nL
  have nL1 : h1 L = none := rh1.fresh nL
  let S : (List D → DHp → Prop) → Hp → Prop := fun V H' => ∃ acc ws h', (∀ a o, a ≠ L → h1 a = none → H1 a = some o → (∀ ps, o ≠ .tbl ps) → H' a = some o ∧ h' a = none) ∧ Keeps H1 H' ∧ RelH (cn X T) H' h' ∧ h' L = none ∧ H' L = some (.lst ws) ∧ Reps X.K H' acc ws ∧ V acc h'
  refine ⟨fun i mm H' => mm = ds.length - i ∧ i ≤ ds.length ∧ S (V i) H',
    ⟨ds.length, rfl, Nat.zero_le _, [], [], h1, fun a o na n e nt => ⟨by rw [upd_ne na]; exact e, n⟩, keeps_new nL, rh1', nL1, upd_same, Reps.nil, v0⟩, ?_⟩
  rintro i mm H2 ⟨em, hi, acc, ws, h2, x2, k2, rh2, n2, e2, r2, v2⟩
  obtain ⟨ok2, fin, step⟩ := turn i acc h2 v2
  by_cases hlt : i < ds.length
  · refine .inr ⟨io.go i H2 h2 k2 rh2 ok2 hlt, fun H' => S (V (i + 1)) H', fun H' z => ⟨ds.length - (i + 1), by omega, rfl, hlt, z⟩, fun x H3 y => ?_⟩
    have hd : ds[i]? = some ds[i] := List.getElem?_eq_getElem hlt
    obtain ⟨r3, rh3, x3⟩ := io.yld i H2 x H3 h2 _ k2 rh2 ok2 hd y
    obtain ⟨δ2, hp, q3⟩ := step _ hd
    have kH : Keeps H H3 := by
      have a := x1.keeps rh
      have b := x3.keeps rh2
      exact ⟨fun c xs e => b.1 _ _ (k2.1 _ _ (a.1 _ _ e)), fun c o z e => b.2 _ _ _ (k2.2 _ _ _ (a.2 _ _ _ e))⟩
    refine pat_ok (c := cn X T) p _ x _ δ2 _ _ hp r3 ((rs.keep kH).wipe _) fun σ2 rs2 w2 => ⟨?_, ?_⟩
    · rw [w2 _ hv]
      exact wipe_twice σ _ _ fun i hi => hi
    · have e3 : H3 L = some (.lst ws) := x3.same n2 e2 fun _ z => by cases z
      have r3' : Reps X.K H3 acc ws := Reps.keep (x3.keeps rh2) _ _ r2
      refine ⟨δ2, h2, _, nox, rs2, rh3, q3, fun b H4 h4 x4 rh4 q4 => ?_, fun _ _ _ _ _ z => z⟩
      have e4 : H4 L = some (.lst ws) := x4.same n2 e3 fun _ z => by cases z
      have n4 : h4 L = none := (x4 L _ n2 e3 (fun _ z => by cases z)).2
      have x24 := x3.trans x4
      have thr : ∀ {H' : Hp} {h' : DHp}, Ext h2 h' H2 H' → ∀ a o, a ≠ L → h1 a = none → H1 a = some o → (∀ ps, o ≠ .tbl ps) → H' a = some o ∧ h' a = none := fun {H' h'} xx a o na n e nt => by
        obtain ⟨e1, m1⟩ := x2 a o na n e nt
        exact xx a o m1 e1 nt
      have kpt : ∀ {H' : Hp} {h' : DHp}, Ext h2 h' H2 H' → Keeps H1 H' := fun {H' h'} xx => by
        have b := xx.keeps rh2
        exact ⟨fun c xs e => b.1 _ _ (k2.1 _ _ e), fun c o z e => b.2 _ _ _ (k2.2 _ _ _ e)⟩
      cases b with
      | false => exact ⟨acc, ws, h4, thr x24, kpt x24, rh4, n4, e4, Reps.keep (x4.keeps rh3) _ _ r3', q4.2 rfl⟩
      | true =>
        have rs4 := rs2.keep (x4.keeps rh3)
        refine ⟨δ2, h4, _, nox, rs4, rh4, q4.1 rfl, fun J1 ds1 ok1 H5 h5 x5 rh5 io1 q5 => ?_, fun _ _ _ _ _ z => z⟩
        obtain ⟨V1, w0, turn1⟩ := q5
        have e5 : H5 L = some (.lst ws) := x5.same n4 e4 fun _ z => by cases z
        have n5 : h5 L = none := (x5 L _ n4 e4 (fun _ z => by cases z)).2
        have x25 := x24.trans x5
        have r5' : Reps X.K H5 acc ws := Reps.keep (x5.keeps rh4) _ _ (Reps.keep (x4.keeps rh3) _ _ r3')
        have rs5 := rs4.keep (x5.keeps rh4)
        refine ⟨fun j kk H' => kk = ds1.length - j ∧ j ≤ ds1.length ∧ Keeps H5 H' ∧ S (V1 j) H', ⟨ds1.length, rfl, Nat.zero_le _, Keeps.refl, acc, ws, h5, thr x25, kpt x25, rh5, n5, e5, r5', w0⟩, ?_⟩
        rintro j kk H6 ⟨ek, hj, k56, acc6, ws6, h6, y6, k6, rh6, n6, e6, r6, v6⟩
        obtain ⟨ok6, fin6, step6⟩ := turn1 j acc6 h6 v6
        by_cases hlt1 : j < ds1.length
        · refine .inr ⟨io1.go j H6 h6 k56 rh6 ok6 hlt1, fun H' => Keeps H5 H' ∧ S (V1 (j + 1)) H', fun H' z => ⟨ds1.length - (j + 1), by omega, rfl, hlt1, z⟩, fun x' H7 y' => ?_⟩
          have hd1 : ds1[j]? = some ds1[j] := List.getElem?_eq_getElem hlt1
          obtain ⟨r7, rh7, x7⟩ := io1.yld j H6 x' H7 h6 _ k56 rh6 ok6 hd1 y'
          obtain ⟨δ3, hp1, q7⟩ := step6 _ hd1
          have ktr : ∀ {A B C : Hp}, Keeps A B → Keeps B C → Keeps A C := fun a b => ⟨fun c xs e => b.1 _ _ (a.1 _ _ e), fun c o z e => b.2 _ _ _ (a.2 _ _ _ e)⟩
          have k57 := ktr k56 (x7.keeps rh6)
          refine pat_ok (c := cn X T) p1 _ x' _ δ3 _ _ hp1 r7 ((rs5.keep k57).wipe _) fun σ3 rs3 w3 => ⟨?_, ?_⟩
          · rw [w3 _ hv1]
            exact wipe_twice σ2 _ _ fun i hi => hi
          · have e7 : H7 L = some (.lst ws6) := x7.same n6 e6 fun _ z => by cases z
            have r7' : Reps X.K H7 acc6 ws6 := Reps.keep (x7.keeps rh6) _ _ r6
            refine ⟨δ3, h6, _, nox, rs3, rh7, q7, fun b H8 h8 x8 rh8 q8 => ?_, fun _ _ _ _ _ z => z⟩
            have e8 : H8 L = some (.lst ws6) := x8.same n6 e7 fun _ z => by cases z
            have n8 : h8 L = none := (x8 L _ n6 e7 (fun _ z => by cases z)).2
            have x68 := x7.trans x8
            have thr6 : ∀ {H' : Hp} {h' : DHp}, Ext h6 h' H6 H' → ∀ a o, a ≠ L → h1 a = none → H1 a = some o → (∀ ps, o ≠ .tbl ps) → H' a = some o ∧ h' a = none := fun {H' h'} xx a o na n e nt => by
              obtain ⟨e1, m1⟩ := y6 a o na n e nt
              exact xx a o m1 e1 nt
            cases b with
            | false => exact ⟨ktr k56 (x68.keeps rh6), acc6, ws6, h8, thr6 x68, ktr k6 (x68.keeps rh6), rh8, n8, e8, Reps.keep (x8.keeps rh7) _ _ r7', q8.2 rfl⟩
            | true =>
              refine ⟨δ3, h8, _, nox, rs3.keep (x8.keeps rh7), rh8, q8.1 rfl, fun v d H9 h9 x9 r9 rh9 q9 => ?_, fun _ _ _ _ _ z => z⟩
              have e9 : H9 L = some (.lst ws6) := x9.same n8 e8 fun _ z => by cases z
              have n9 : h9 L = none := (x9 L _ n8 e8 (fun _ z => by cases z)).2
              have x69 := x68.trans x9
              have r9' : Reps X.K H9 acc6 ws6 := Reps.keep (x9.keeps rh8) _ _ (Reps.keep (x8.keeps rh7) _ _ r7')
              obtain ⟨rh10, k10, o10⟩ := rh9.hidWrote (ws := ws6 ++ [v]) e9 n9
              refine ⟨ws6, e9, by rw [r9'.length]; exact q9.1, ktr (ktr k56 (x69.keeps rh6)) k10, acc6 ++ [d], ws6 ++ [v], h9, fun a o na n e nt => ?_, ktr (ktr k6 (x69.keeps rh6)) k10, rh10, n9, upd_same, Reps.keep k10 _ _ (r9'.append (Reps.one r9)), q9.2⟩
              obtain ⟨e1, m1⟩ := thr6 x69 a o na n e nt
              exact ⟨o10 a o na e1, m1⟩
        · have hj3 : j = ds1.length := by omega
          subst hj3
          exact .inl ⟨io1.stop H6 h6 k56 rh6 ok6, acc6, ws6, h6, y6, k6, rh6, n6, e6, r6, fin6 rfl⟩
  · have hi3 : i = ds.length := by omega
    subst hi3
    refine .inl ⟨io.stop H2 h2 k2 rh2 ok2, ?_⟩
    have rh3 := rh2.reveal e2 r2
    refine k _ _ H2 (put h2 L (.lst acc)) (fun a o n e nt => ?_) mk_ref rh3 (fin rfl L n2)
    obtain ⟨e1, m1⟩ := x1 a o n e nt
    have na : a ≠ L := fun z => by subst z; rw [nL] at e1; cases e1
    obtain ⟨e2', m2⟩ := x2 a o na m1 e1 nt
    exact ⟨e2', by rw [put_ne na]; exact m2⟩
theorem de_lc2 (hc : X.calm = true) (hN : X.N.Nodup) (hi : DI X T W tg iter mi) (ok : BlkOk X.N X.env.scope scope own) (hv : ∀ i ∈ patV p, i ∈ own.map (·.2)) (hv1 : ∀ i ∈ patV p1, i ∈ vs1) (hvv : ∀ i ∈ vs1, i ∈ own.map (·.2))
    (hg : ∀ (s : Shared) (H : Hp) (C : Addr) (cl : List (Str × Addr)) (fp : List Addr), PG (X.blk s H scope (compEnvC scope cl C X.env) fp) tg (patG X.K p))
    (ht : ∀ (s : Shared) (H : Hp) (C : Addr) (cl : List (Str × Addr)) (fp : List Addr), DTs (X.blk s H scope (compEnvC scope cl C X.env) fp) T ifs tt)
    (hi1 : ∀ (s : Shared) (H : Hp) (C : Addr) (cl : List (Str × Addr)) (fp : List Addr), DI (X.blk s H scope (compEnvC scope cl C X.env) fp) T WF tg1 iter1 mi1)
    (hg1 : ∀ (s : Shared) (H : Hp) (C : Addr) (cl : List (Str × Addr)) (fp : List Addr), PG (X.blk s H scope (compEnvC scope cl C X.env) fp) tg1 (patG X.K p1))
    (ht1 : ∀ (s : Shared) (H : Hp) (C : Addr) (cl : List (Str × Addr)) (fp : List Addr), DTs (X.blk s H scope (compEnvC scope cl C X.env) fp) T ifs1 tt1)
    (he : ∀ (s : Shared) (H : Hp) (C : Addr) (cl : List (Str × Addr)) (fp : List Addr), DE (X.blk s H scope (compEnvC scope cl C X.env) fp) T WF elt me) (hs : ∀ x, foldedSetIterable iter X.env x = pure x := by intro _; rfl) (hs1 : ∀ env x, foldedSetIterable iter1 env x = pure x := by intro _ _; rfl) :
    DE X T W (.ListComp elt [⟨tg, iter, ifs, 0⟩, ⟨tg1, iter1, ifs1, 0⟩] scope pos) (dLc2 mi p tt mi1 p1 tt1 me (own.map (·.2)) vs1) :=
  pe_imp (pe_lc2 (X := X) (wi := upI (cn X T) W mi) (g := patG X.K p) (tt := upT (cn X T) WF tt) (wi1 := upI (cn X T) WF mi1) (g1 := patG X.K p1) (tt1 := upT (cn X T) WF tt1) (te := up (cn X T) WF me) (vs1 := vs1) hc hN hi ok hvv hg (fun s H C cl fp => (ht s H C cl fp).t) hi1 hg1 (fun s H C cl fp => (ht1 s H C cl fp).t) he hs hs1) (up_lc2 hv hv1)
theorem ds_setLc2 {i : Nat} {y : Str} {py spos : Pos} (hc : X.calm = true) (hN : X.N.Nodup) (hy : X.N[i]? = some y) (hyl : X.env.scope.names.lookup y = some .local)
    (hsw : swapsWith (.ListComp elt [⟨tg, iter, ifs, 0⟩, ⟨tg1, iter1, ifs1, 0⟩] scope pos) (some (.Name y py)) spos.line X.env = pure true) (hi : DI X T W tg iter mi) (ok : BlkOk X.N X.env.scope scope own) (hv : ∀ i ∈ patV p, i ∈ own.map (·.2)) (hv1 : ∀ i ∈ patV p1, i ∈ vs1) (hvv : ∀ i ∈ vs1, i ∈ own.map (·.2))
    (hg : ∀ (s : Shared) (H : Hp) (C : Addr) (cl : List (Str × Addr)) (fp : List Addr), PG (X.blk s H scope (compEnvC scope cl C X.env) fp) tg (patG X.K p))
    (ht : ∀ (s : Shared) (H : Hp) (C : Addr) (cl : List (Str × Addr)) (fp : List Addr), DTs (X.blk s H scope (compEnvC scope cl C X.env) fp) T ifs tt)
    (hi1 : ∀ (s : Shared) (H : Hp) (C : Addr) (cl : List (Str × Addr)) (fp : List Addr), DI (X.blk s H scope (compEnvC scope cl C X.env) fp) T WF tg1 iter1 mi1)
    (hg1 : ∀ (s : Shared) (H : Hp) (C : Addr) (cl : List (Str × Addr)) (fp : List Addr), PG (X.blk s H scope (compEnvC scope cl C X.env) fp) tg1 (patG X.K p1))
    (ht1 : ∀ (s : Shared) (H : Hp) (C : Addr) (cl : List (Str × Addr)) (fp : List Addr), DTs (X.blk s H scope (compEnvC scope cl C X.env) fp) T ifs1 tt1)
    (he : ∀ (s : Shared) (H : Hp) (C : Addr) (cl : List (Str × Addr)) (fp : List Addr), DE (X.blk s H scope (compEnvC scope cl C X.env) fp) T WF elt me) (hs : ∀ x, foldedSetIterable iter X.env x = pure x := by intro _; rfl) (hs1 : ∀ env x, foldedSetIterable iter1 env x = pure x := by intro _ _; rfl) :
    DS X T W (.Assign [.Name y py] (.ListComp elt [⟨tg, iter, ifs, 0⟩, ⟨tg1, iter1, ifs1, 0⟩] scope pos) spos) (dAsg (dLc2 mi p tt mi1 p1 tt1 me (own.map (·.2)) vs1) (dName i)) := by
  have zz := ps_setLc2 (X := X) (i := i) (y := y) (py := py) (elt := elt) (tg := tg) (iter := iter) (ifs := ifs) (tg1 := tg1) (iter1 := iter1) (ifs1 := ifs1) (scope := scope) (own := own) (vs1 := vs1) (pos := pos) (spos := spos) (wi := upI (cn X T) W mi) (g := patG X.K p) (tt := upT (cn X T) WF tt) (wi1 := upI (cn X T) WF mi1) (g1 := patG X.K p1) (tt1 := upT (cn X T) WF tt1) (te := up (cn X T) WF me) hc hN hy hyl hsw hi ok hvv hg (fun s H C cl fp => (ht s H C cl fp).t) hi1 hg1 (fun s H C cl fp => (ht1 s H C cl fp).t) he hs hs1
  refine ps_imp zz ?_
  rintro Z σ H ⟨δ, h, DD, rs, rh, q, k⟩
  refine up_lc2 (W := W) hv hv1 σ H _ ⟨δ, h, _, _, rs, rh, q, fun v d H1 h1 x1 r1 rh1 q1 => ?_, k.ex.expr rs rh⟩
  exact k.nx _ _ H1 h1 x1 ((rs.keep (x1.keeps rh)).set i r1) rh1 q1
end
end Tw
/-! sorted(set(x)) of a text, of a tuple of ints. -/
namespace Tw
open PySem PySem.Spec PyProof.Rows L2
theorem paired_perm {α β : Type} {R : α → β → Prop} {l l' : List α} (p : l.Perm l') : ∀ {ks : List β}, Paired R l ks → ∃ ks', Paired R l' ks' ∧ ks'.Perm ks := by
  induction p with
  | nil => intro ks h; cases h; exact ⟨[], .nil, .refl _⟩
  | cons x _ ih =>
    intro ks h
    cases h with
    | cons h1 h2 =>
      obtain ⟨ks', q1, q2⟩ := ih h2
      exact ⟨_ :: ks', .cons h1 q1, q2.cons _⟩
  | swap x y l =>
    intro ks h
    cases h with
    | cons h1 h2 => cases h2 with
      | cons h3 h4 => exact ⟨_ :: _ :: _, .cons h3 (.cons h1 h4), List.Perm.swap ..⟩
  | trans _ _ ih1 ih2 =>
    intro ks h
    obtain ⟨k1, q1, q2⟩ := ih1 h
    obtain ⟨k2, q3, q4⟩ := ih2 q1
    exact ⟨k2, q3, q4.trans q2⟩
section
variable {P : Program} {w : World} {κ : Type} [DecidableEq κ] {knd : KeyKind P w κ}
/-- an entry of a set is the key k -/
def SEnt (knd : KeyKind P w κ) (e : Int × Value) (k : κ) : Prop := knd.is k e.2 = true ∧ e.1 = knd.hash k ∧ e.2.scannable = true
/-- a set of the keys ks, which can be walked -/
def SetG (knd : KeyKind P w κ) (h : Heap) (a : Addr) (ks : List κ) : Prop :=
  ∃ o es ep t, h.get? a = some o ∧ o.ExactSet ∧ o.data = .set es ep t ∧ Paired (SEnt knd) es.toList ks ∧ ks.Nodup ∧ es.size < scanBound ∧ t.fits es.size = true ∧ Ris t.place.toList ∧ (w.params.followText "set-order" = true ∨ t.led = true)
theorem SetG.at {h h' : Heap} {a : Addr} {ks : List κ} (R : SetG knd h a ks) (k : ∀ o, h.get? a = some o → h'.get? a = some o) : SetG knd h' a ks := by
  obtain ⟨o, es, ep, t, ho, r⟩ := R
  exact ⟨o, es, ep, t, k o ho, r⟩
theorem sent_elems {l : List (Int × Value)} {ks : List κ} (p : Paired (SEnt knd) l ks) : ElemsOf knd l := by
  induction p with
  | nil => intro e he; cases he
  | cons h _ ih =>
    intro e he
    rcases List.mem_cons.mp he with rfl | he
    · exact ⟨⟨_, h.1, h.2.1⟩, h.2.2⟩
    · exact ih e he
theorem sent_mem {l : List (Int × Value)} {ks : List κ} (p : Paired (SEnt knd) l ks) (k : κ) : k ∈ ks ↔ ∃ e ∈ l, knd.is k e.2 = true := by
  induction p with
  | nil => simp
  | cons h _ ih =>
    rw [List.mem_cons, ih]
    constructor
    · rintro (rfl | ⟨e, he, q⟩)
      · exact ⟨_, List.mem_cons_self, h.1⟩
      · exact ⟨e, List.mem_cons_of_mem _ he, q⟩
    · rintro ⟨e, he, q⟩
      rcases List.mem_cons.mp he with rfl | he
      · exact .inl (knd.inj _ _ _ q h.1)
      · exact .inr ⟨e, he, q⟩
variable {A : Around} {E : Value → Shared → Prop} {s : Shared} {a : Addr} {ks : List κ}
theorem setG_tail {g : Bool → Sem Unit} (hg : ∀ (b : Bool) (s₁ : Shared) (Q' : Unit → Shared → Prop), Q' () s₁ → wpAny (model P w) A (g b) Q' E s₁)
    {o : Obj} {es : Array (Int × Value)} {ep : Nat} {t : SetTable} (ho : s.heap.get? a = some o) (hex : o.ExactSet) (hd : o.data = .set es ep t)
    {es1 : Array (Int × Value)} {t2 : SetTable} {ks1 : List κ} (pr : Paired (SEnt knd) es1.toList ks1) (nd1 : ks1.Nodup)
    (hb1 : es1.size < scanBound) (hf2 : t2.fits es1.size = true) (hr : Ris t2.place.toList) (hl : w.params.followText "set-order" = true ∨ t2.led = true) {wasDummy : Bool} {R : Option Bool → Shared → Prop}
    (hR : ∀ h' ks2, Heap.SameBut a s.heap h' → SetG knd h' a ks2 → ks2.Perm ks1 → R (some true) { s with heap := h' }) :
    wpAny (model P w) A (do
        storeSet a es1 t2
        if (!wasDummy && t2.tooFull) = true then do
            g (relayAll t2 es1 (SetTable.grown es1.size)).2.2
            storeSet a (relayAll t2 es1 (SetTable.grown es1.size)).1 (relayAll t2 es1 (SetTable.grown es1.size)).2.1
            pure (some true)
          else pure (some true)) R E s := by
  refine wpAny_bind (wpAny_storeSet_of ho hd ?_ (fits_of_scanBound hb1))
  have ho1 := store_at (es' := es1) (t' := t2) ho hd
  have sb1 := Heap.SameBut.update s.heap a (Obj.putSet es1 t2)
  split
  · have pm := relayAll_perm t2 es1 (SetTable.grown es1.size)
    have hf3 := relayAll_fits t2 es1 (SetTable.grown es1.size)
    have hr3 := relayAll_ris t2 es1 (SetTable.grown es1.size)
    have hl3 := relayAll_led t2 es1 (SetTable.grown es1.size)
    generalize relayAll t2 es1 (SetTable.grown es1.size) = Z at pm hf3 hr3 hl3 ⊢
    obtain ⟨es2, t3, gave⟩ := Z
    dsimp only at pm hf3 hr3 hl3 ⊢
    have hsz : es2.size = es1.size := by rw [← Array.length_toList, pm.length_eq, Array.length_toList]
    obtain ⟨ks2, pr2, pk⟩ := paired_perm pm.symm pr
    refine wpAny_bind (hg _ _ _ ?_)
    refine wpAny_bind (wpAny_storeSet_of ho1 rfl ?_ (fits_of_scanBound (by rw [hsz]; exact hb1)))
    have ho2 := store_at (es' := es2) (t' := t3) ho1 rfl
    refine wpAny_pure (hR _ ks2 (sb1.trans (Heap.SameBut.update _ a _)) ?_ pk)
    exact ⟨_, es2, _, t3, ho2, hex, rfl, pr2, pk.nodup_iff.mpr nd1, by rw [hsz]; exact hb1, hf3, hr3, hl.imp id fun z => by rw [hl3]; exact z⟩
  · exact wpAny_pure (hR _ ks1 sb1 ⟨_, es1, _, t2, ho1, hex, rfl, pr, nd1, hb1, hf2, hr, hl⟩ (.refl _))
theorem setG_add {k : κ} {v : Value} {Q : Bool → Shared → Prop} (R : SetG knd s.heap a ks) (hkey : knd.is k v = true) (hsc : v.scannable = true) (room : ks.length + 1 < scanBound)
    (hQ : ∀ h' ks' b, Heap.SameBut a s.heap h' → SetG knd h' a ks' → (∀ j, j ∈ ks' ↔ j ∈ ks ∨ j = k) → ks'.length ≤ ks.length + 1 → Q b { s with heap := h' }) :
    wpAny (model P w) A (setAddHashed a v (knd.hash k)) Q E s := by
  obtain ⟨o, es, ep, t, ho, hex, hd, pr, nd, hb, hf, hr, hl⟩ := R
  have hel : ElemsOf knd es.toList := sent_elems pr
  have hn : es.size = ks.length := by rw [← Array.length_toList]; exact pr.length
  unfold setAddHashed setAddHashedIn
  refine wpAny_holding (wpAny_bind (wpAny_setState_of ho hd hf ?_))
  dsimp only
  rw [byScan_of hsc hb hel]
  simp only [↓reduceIte]
  unfold setAddByScan
  refine wpAny_bind ?_
  refine wpAny_bind (wpAny_rule ?_)
  refine wpAny_bind (wpAny_setScan_of hkey ho hd hf hel ?_)
  cases hfi : List.findIdx? (fun e => knd.is k e.2) es.toList with
  | some j =>
    dsimp only
    obtain ⟨hj, pj, _⟩ := List.findIdx?_eq_some_iff_getElem.mp hfi
    have hk : k ∈ ks := (sent_mem pr k).mpr ⟨es.toList[j], List.getElem_mem hj, pj⟩
    refine wpAny_pure (wpAny_pure ?_)
    exact hQ s.heap ks _ (Heap.SameBut.refl a s.heap) ⟨o, es, ep, t, ho, hex, hd, pr, nd, hb, hf, hr, hl⟩ (fun i => ⟨.inl, fun z => z.elim id fun e => e ▸ hk⟩) (Nat.le_succ _)
  | none =>
    dsimp only
    have hnk : k ∉ ks := fun z => by
      obtain ⟨e, he, q⟩ := (sent_mem pr k).mp z
      have c := List.findIdx?_eq_none_iff.mp hfi e he
      rw [q] at c
      cases c
    have hgw : ∀ (b : Bool) {s₁ : Shared} {Q' : Unit → Shared → Prop}, Q' () s₁ → wpAny (model P w) A (match b with | true => rule "set.scan.the-table-gave-way" | false => pure ()) Q' E s₁ :=
      fun b s₁ Q' q => by cases b <;> first | exact wpAny_pure q | exact wpAny_rule q
    have pm := layNew_perm t es (knd.hash k) v
    have hf1 := layNew_fits t es (knd.hash k) v
    have hr1 := layNew_ris t es (knd.hash k) v hr
    have hl1 := layNew_led t es (knd.hash k) v
    generalize layNew t es (knd.hash k) v = Z at pm hf1 hr1 hl1 ⊢
    obtain ⟨es1, t1, wasDummy, gave⟩ := Z
    dsimp only at pm hf1 hr1 hl1 ⊢
    rw [Array.toList_push] at pm
    have pc : ((knd.hash k, v) :: es.toList).Perm es1.toList := ((pm.trans (List.perm_append_singleton _ _))).symm
    obtain ⟨ks1, pr1, pk⟩ := paired_perm pc (Paired.cons (F := SEnt knd) ⟨hkey, rfl, hsc⟩ pr)
    have nd1 : ks1.Nodup := pk.nodup_iff.mpr (List.nodup_cons.mpr ⟨hnk, nd⟩)
    have hl1' : ks1.length = ks.length + 1 := by rw [pk.length_eq, List.length_cons]
    have hb1 : es1.size < scanBound := by rw [← Array.length_toList, pr1.length, hl1']; exact room
    have hled : w.params.followText "set-order" = true ∨ t1.led = true := hl.imp id fun z => by rw [hl1]; exact z
    have fin : ∀ h' ks2, Heap.SameBut a s.heap h' → SetG knd h' a ks2 → ks2.Perm ks1 → Q true { s with heap := h' } := fun h' ks2 sb r p2 =>
      hQ h' ks2 true sb r (fun j => by rw [p2.mem_iff, pk.mem_iff, List.mem_cons]; exact Or.comm) (by rw [p2.length_eq, hl1']; exact Nat.le_refl _)
    refine wpAny_bind (hgw _ ?_)
    split
    · refine wpAny_bind ?_
      rw [hashByValue_scannable 8 hsc]
      refine wpAny_pure ?_
      refine setG_tail ?_ ho hex hd pr1 nd1 hb1 ?_ ?_ ?_ ?_
      · intro b s₁ Q' q; cases b <;> first | exact wpAny_pure q | exact wpAny_rule q
      · first | (split <;> first | exact hf1 | exact SetTable.fits_plain_off hf1) | exact hf1
      · first | (split <;> exact hr1) | exact hr1
      · first | (split <;> exact hled) | exact hled
      · intro h' ks2 sb r p2; dsimp only; exact wpAny_pure (fin h' ks2 sb r p2)
    · refine wpAny_bind (wpAny_pure ?_)
      simp only [↓reduceIte]
      refine setG_tail ?_ ho hex hd pr1 nd1 hb1 hf1 hr1 hled ?_
      · intro b s₁ Q' q; cases b <;> first | exact wpAny_pure q | exact wpAny_rule q
      · intro h' ks2 sb r p2; dsimp only; exact wpAny_pure (fin h' ks2 sb r p2)
/-- the rest of what is walked, into the set -/
theorem setG_update {I : Addr} {fp wr : List Addr} {G : Array GenState → Array GenState → Prop} {n : Nat} {Pv : Nat → Value → Prop} {St : Nat → Shared → Prop} {R : Result → Shared → Prop}
    (W : WalksS P w A.in1 I fp wr G n Pv St) (S : Addr) (hSf : S ∉ fp) (ns : List κ) (hn : n = ns.length) (hb : ns.length + 1 < scanBound) (hval : ∀ i v, Pv i v → ∃ k, ns[i]? = some k ∧ knd.is k v = true ∧ v.scannable = true) :
    ∀ (k i : Nat) (s : Shared) (ks : List κ), n - i = k → i ≤ n → St i s → SetG knd s.heap S ks → ks.length ≤ i → (∀ j, j ∈ ks ↔ j ∈ ns.take i) →
      (∀ s' ks', Moved (S :: wr) G s s' → ks'.length ≤ n → SetG knd s'.heap S ks' → (∀ j, j ∈ ks' ↔ j ∈ ns) → R (.ok (.ret .none)) s') →
      codeAny (model P w) A (.builtin "set.update.loop" ⟨[.ref S, .ref I], []⟩) R s := by
  have hSw : S ∉ wr := fun h => hSf (W.sub _ h)
  have hsub : ∀ b ∈ wr, b ∈ S :: wr := fun b hb => List.mem_cons_of_mem _ hb
  intro k
  induction k with
  | zero =>
    intro i s ks hk' hi hst hS hc hm0 hR
    have hin : i = n := by omega
    subst hin
    refine codeAny_builtin F.entry_set_update_loop ?_
    rw [Around.under_plainId F.plain_set_update_loop _]
    show wpAny _ A.in1 (pyNext (.ref I) >>= _) _ _ s
    refine wpAny_bind (W.done s _ _ hst fun s' hm => ?_)
    show wpAny _ A.in1 (ret Value.none) _ _ s'
    have e : ns.take i = ns := List.take_of_length_le (by omega)
    rw [e] at hm0
    exact wpAny_pure (hR s' ks (hm.mono hsub) hc (hS.at fun o e => hm.heap S o hSw e) hm0)
  | succ k ih =>
    intro i s ks hk' hi hst hS hc hm0 hR
    have hlt : i < n := by omega
    refine codeAny_builtin F.entry_set_update_loop ?_
    rw [Around.under_plainId F.plain_set_update_loop _]
    show wpAny _ A.in1 (pyNext (.ref I) >>= _) _ _ s
    refine wpAny_bind (W.item i s _ _ hlt hst fun v s' hP hst' hm => ?_)
    obtain ⟨z, hz, hkz, hsc⟩ := hval i v hP
    have hS' : SetG knd s'.heap S ks := hS.at fun o e => hm.heap S o hSw e
    show wpAny _ A.in1 (holding [v] (setAdd S v) >>= _) _ _ s'
    refine wpAny_bind (wpAny_holding ?_)
    unfold setAdd
    refine wpAny_holding ?_
    refine wpAny_bind (knd.pyHash (k := z) hkz ?_)
    refine setG_add (s := { s' with toks := s'.toks + 1 }) hS' hkz hsc (by omega) fun h' ks2 b hsb hS2 hm2 hl2 => ?_
    refine wpAny_pure ⟨plainId_quiet F.plain_set_update_loop _, ih (i + 1) _ ks2 (by omega) hlt (W.frame _ s' _ _ hst' (Nat.le_succ _) fun b hb o e => ?_) hS2 (by omega) (fun j => ?_) fun s'' ks3 hm'' hc'' hS'' hm3 => ?_⟩
    · rw [hsb.2 b (fun h : b = S => hSf (by rw [← h]; exact hb))]; exact e
    · rw [hm2 j, hm0 j, List.take_add_one, hz]
      simp [List.mem_append]
    · refine hR s'' ks3 (Moved.trans W.gtrans ((hm.mono hsub).then_heap (Nat.le_succ _) fun b o hb e => ?_) hm'') hc'' hS'' hm3
      rw [hsb.2 b (fun h : b = S => hb (by rw [h]; exact List.mem_cons_self))]; exact e
end
end Tw
/-! sorted(set(x)) of a text, of a tuple of ints: the calls, the rule. -/
namespace Tw
open PySem PySem.Spec PyProof.Rows L2
section
variable {P : Program} {w : World} {A : Around} {E : Value → Shared → Prop} {s : Shared}
theorem call_set_text {x : List Nat} {u : Tok} {Q : Value → Shared → Prop} (hh : A.handled = none) (hb : x.length + 1 < scanBound)
    (h : ∀ (h' : Heap) (tk : Nat) (ks : List Str), SetG (strKind P w) h' s.heap.objs.size ks → (∀ j, j ∈ ks ↔ j ∈ x.map fun c => tx [c]) → ks.length ≤ x.length → (∀ b o, s.heap.get? b = some o → h'.get? b = some o) → Q (.ref s.heap.objs.size) { s with heap := h', toks := tk }) :
    wpAny (model P w) A (call (.type "set") [.str (tx x) u]) Q E s := by
  have hxz : (tx x).cps.size = x.length := by show x.toArray.size = x.length; simp
  obtain ⟨c, tl, hmro⟩ := F.called_set.mro
  have hmade := F.called_set.made
  have hsub := F.called_set.sub
  refine wpAny_call (codeAny_of_tree ?_)
  show wpAny _ _ (callAny (.type "set") _) _ _ _
  refine wpAny_pure ⟨Code.quiet_builtin _ (by decide +kernel), codeAny_builtin F.entry_type_call ?_⟩
  rw [Around.under_plain (weight_type_call_type "set" [.str (tx x) u] []) rfl]
  have h1 := F.called_set.notType
  have h2 := F.called_set.canCreate
  have hct := F.typeCall_set_1 (.str (tx x) u)
  repeat (any_goals (first | assumption | wp_step))
  refine codeAny_mono (code_set_led1 (.str (tx x) u) (E := E) (Q₁ := fun obj s₁ => obj = .ref s.heap.objs.size ∧ s₁ = { s with heap := s.heap.push { cls := .type "set", dict := none, data := .set #[] 0 (.fresh 0 0 (!w.params.followText "set-order")) } }) ⟨rfl, rfl⟩) fun r s₁ hr => ?_
  cases r with
  | error e => exact hr
  | ok fl =>
    cases fl with
    | ret obj =>
      obtain ⟨rfl, rfl⟩ := hr
      have hS : (s.heap.push { cls := .type "set", dict := none, data := .set #[] 0 (.fresh 0 0 (!w.params.followText "set-order")) }).get? s.heap.objs.size = some { cls := .type "set", dict := none, data := .set #[] 0 (.fresh 0 0 (!w.params.followText "set-order")) } := Heap.get?_push_size _ rfl
      have hT : Shared.TypeIs { s with heap := s.heap.push { cls := .type "set", dict := none, data := .set #[] 0 (.fresh 0 0 (!w.params.followText "set-order")) } } (.ref s.heap.objs.size) "set" := ⟨_, hS, rfl⟩
      have hli := F.called_set.init.lookup
      have hbi := F.called_set.init.bind (.ref s.heap.objs.size)
      repeat (any_goals (first | assumption | wp_step))
      refine codeAny_mono (codeAny_call_builtin (R := wants (fun r s₂ => r = .none ∧ ∃ h' tk ks, s₂ = { s with heap := h', toks := tk } ∧ SetG (strKind P w) h' s.heap.objs.size ks ∧ (∀ j, j ∈ ks ↔ j ∈ x.map fun c => tx [c]) ∧ ks.length ≤ x.length ∧
          (∀ b o, s.heap.get? b = some o → h'.get? b = some o)) E) F.called_set.init.plain F.entry_set_init (check_set_init_1 hT ?_)) fun r₂ s₂ hr₂ => ?_
      · have hsls := F.sub_str_set
        have hslf := F.sub_str_frozenset
        have hne : (Value.type "str" == Value.type "dict") = false := by decide
        unfold Builtin.«set.__init__» noKeywords Builtin.Frozenset.updateFrom
        generalize hPI : pyIter = PI
        wp_walk
        subst hPI
        refine wpAny_pyIter_str fun oi St W st0 => ?_
        refine wpAny_bind (wpAny_runValue ?_)
        have hh3 : A.in1.in1.in1.handled = none := by simp [hh]
        have hSf : s.heap.objs.size ∉ [(s.heap.push { cls := .type "set", dict := none, data := .set #[] 0 (.fresh 0 0 (!w.params.followText "set-order")) }).objs.size] := by
          rw [Heap.size_push, List.mem_singleton]
          exact Nat.ne_of_lt (Nat.lt_succ_self _)
        have hval : ∀ (i : Nat) (v : Value), SignAt (tx x) i v → ∃ k, (x.map fun c => tx [c])[i]? = some k ∧ (strKind P w).is k v = true ∧ v.scannable = true := fun i v ⟨c, t, h1, h2⟩ => by
          have h1 : x[i]? = some c := by simpa using h1
          subst h2
          exact ⟨tx [c], by rw [List.getElem?_map, h1]; rfl, strKind_is P w _ t, rfl⟩
        refine setG_update (knd := strKind P w) (W _ hh3).toS s.heap.objs.size hSf (x.map fun c => tx [c]) (by rw [hxz, List.length_map]) (by rw [List.length_map]; exact hb) hval ((tx x).cps.size - 0) 0 _ [] (by omega) (Nat.zero_le _) st0 ?hS0 (Nat.le_refl 0) (by simp) ?hR
        case hS0 =>
          have hget : ((s.heap.push { cls := .type "set", dict := none, data := .set #[] 0 (.fresh 0 0 (!w.params.followText "set-order")) }).push oi).get? s.heap.objs.size
              = some { cls := .type "set", dict := none, data := .set #[] 0 (.fresh 0 0 (!w.params.followText "set-order")) } := Heap.get?_push_of_some _ hS
          refine ⟨_, #[], 0, _, hget, ⟨rfl, rfl, rfl⟩, rfl, .nil, List.nodup_nil, (by decide), (by rfl), List.Pairwise.nil, ?_⟩
          show _ ∨ (!w.params.followText "set-order") = true
          cases w.params.followText "set-order"
          · exact .inr rfl
          · exact .inl rfl
        case hR =>
          intro s' ks hm hc' hS' hmem
          obtain ⟨h', g2, d', tk', os'⟩ := s'
          have eg : g2 = s.gens := hm.gens
          have ed : d' = s.drawn := hm.drawn
          have eo : os' = s.os := hm.os
          subst eg; subst ed; subst eo
          show wpAny _ _ _ _ _ _
          refine wpAny_pure ?_
          show wpAny _ _ (ret Value.none) _ _ _
          refine wpAny_pure ⟨rfl, h', tk', ks, rfl, hS', hmem, by rw [← hxz]; exact hc', fun b o e => ?_⟩
          have hb0 : b < s.heap.objs.size := Heap.lt_size e
          have hb1 : b ≠ s.heap.objs.size := Nat.ne_of_lt hb0
          have hb2 : b ≠ (s.heap.push { cls := .type "set", dict := none, data := .set #[] 0 (.fresh 0 0 (!w.params.followText "set-order")) }).objs.size := by
            rw [Heap.size_push]; exact Nat.ne_of_lt (Nat.lt_succ_of_lt hb0)
          exact hm.heap b o (by simp only [List.mem_cons, List.mem_singleton, List.not_mem_nil, or_false, not_or]; exact ⟨hb1, hb2⟩) (Heap.get?_push_of_some _ (Heap.get?_push_of_some _ e))
      · cases r₂ with
        | error e => exact hr₂
        | ok fl₂ =>
          cases fl₂ with
          | ret r =>
            obtain ⟨rfl, h', tk, ks, rfl, hS', hm', hc', hk'⟩ := hr₂
            repeat (any_goals (first | assumption | wp_step))
            exact h _ _ _ hS' hm' hc' hk'
          | _ => exact hr₂.elim
    | _ => exact hr.elim
end

/-! ### sorted of it -/
/-- a value is this text -/
def IsTx (v : Value) (k : Str) : Prop := ∃ t, v = .str k t
theorem strs_of_paired {vs : List Value} {ks : List Str} (p : Paired IsTx vs ks) : StrsAre vs ks := by
  induction p with
  | nil => exact .nil
  | cons h _ ih => obtain ⟨t, rfl⟩ := h; exact .cons _ t ih
theorem paired_vals {P : Program} {w : World} {l : List (Int × Value)} {ks : List Str} (p : Paired (SEnt (strKind P w)) l ks) : Paired IsTx (l.map (·.2)) ks := by
  induction p with
  | nil => exact .nil
  | cons h _ ih => exact .cons (Value.isStrOf_shape h.1) ih
section
variable {P : Program} {w : World} {A : Around} {E : Value → Shared → Prop} {s : Shared} {a : Addr}
theorem sorted_text {ks : List Str} {Q : Value → Shared → Prop} (R : SetG (strKind P w) s.heap a ks) (hh : A.handled = none) (h64 : ks.length < 64)
    (hQ : ∀ s' p (out : Array Value) (c : Nat) (ys : List Str), (∀ b o, s.heap.get? b = some o → s'.heap.get? b = some o) → s'.gens = s.gens → s'.os = s.os → s.heap.objs.size ≤ p →
      s'.heap.get? p = some (seqObj "list" out c) → StrsAre out.toList ys → ys.Perm ks → sortedS ys = true → Q (.ref p) s') :
    wpAny (model P w) A (call (.builtin "sorted") [.ref a]) Q E s := by
  obtain ⟨o, es, ep, t, ho, hex, hd, pr, nd, hb, hf, hr, hl⟩ := R
  refine Calls.call_function_entry kind_sorted plain_sorted entry_sorted (args_sorted1 _) ?_
  unfold Builtin.«sorted»
  refine wpAny_bind (m := checkCount "sorted" 1 1 _) (wpAny_pure ?_)
  refine wpAny_bind (collect_set (A := A.in1) hh ⟨o, ho, hex.1, hd⟩ hf hb hr hl fun s1 vs k1 hz g1 o1 pm => ?_)
  obtain ⟨zs, pz, pk⟩ := paired_perm pm.symm (paired_vals pr)
  have hS := strs_of_paired pz
  have hvl : vs.length = ks.length := by rw [pz.length, pk.length_eq]
  refine wpAny_bind (wpAny_newList ?_ (by rw [hvl, sizeLine_eq]; omega))
  have hoL : (s1.heap.push (seqObj "list" vs.toArray 0)).get? s1.heap.objs.size = some (seqObj "list" vs.toArray 0) := Heap.get?_push_size _ rfl
  refine wpAny_bind (wpAny_holding (wpAny_call_entry slot_list_sort ⟨_, hoL, rfl⟩ entry_list_sort
    (list_sort_treeK strKind_oneLt hoL hS.keysOf (fun v₁ v₂ rest e => keyKind_strs (by rw [← e]; exact hS)) (by rw [hvl]; exact h64) fun st' hp hs => ⟨_, rfl, ?_⟩) (args_list_sort _)))
  obtain ⟨ys, q1, q2, q3⟩ := sorted_out_str hS hp hs
  obtain ⟨c, hc⟩ := sortedHeap_at (vs := vs) (out := (arrOf st').map (·.2)) hoL
  refine wpAny_pure ⟨_, rfl, hQ _ s1.heap.objs.size ((arrOf st').map (·.2)) c ys (fun b u e => ?_) g1 o1 hz hc q1 (q2.trans pk) q3⟩
  have q := k1 b u e
  have hlt := Heap.lt_size q
  show (sortedHeap (s1.heap.push (seqObj "list" vs.toArray 0)) s1.heap.objs.size vs ((arrOf st').map (·.2))).get? b = some u
  rw [sortedHeap_old (Nat.ne_of_lt hlt) (by rw [size_push']; exact Nat.lt_succ_of_lt hlt)]
  exact Heap.get?_push_of_some _ q
end
/-! single signs in their order -/
theorem rising_one : ∀ {cs : List Nat} {c : Nat}, risingS (tx [c]) (cs.map fun d => tx [d]) = true → cs.Nodup → c ∉ cs → (c :: cs).Pairwise (· ≤ ·) → (c :: cs).Pairwise (· < ·)
  | [], c, _, _, _, _ => List.pairwise_singleton _ _
  | d :: cs, c, h, nd, hc, hp => by
    rw [List.pairwise_cons] at hp ⊢
    refine ⟨fun x hx => ?_, ?_⟩
    · have := hp.1 x hx
      have : c ≠ x := fun e => hc (e ▸ hx)
      omega
    · simp only [List.map_cons, risingS, Bool.and_eq_true] at h
      rw [List.nodup_cons] at nd
      exact rising_one h.2 nd.2 nd.1 hp.2
theorem rising_le : ∀ {cs : List Nat} {c : Nat}, risingS (tx [c]) (cs.map fun d => tx [d]) = true → (c :: cs).Pairwise (· ≤ ·)
  | [], c, _ => List.pairwise_singleton _ _
  | d :: cs, c, h => by
    simp only [List.map_cons, risingS, Bool.and_eq_true] at h
    have ih := rising_le h.2
    have hcd : c ≤ d := by
      have h1 := h.1
      simp only [Bool.not_eq_true', ltCps, Bool.or_eq_false_iff, decide_eq_false_iff_not] at h1
      omega
    rw [List.pairwise_cons]
    refine ⟨fun x hx => ?_, ih⟩
    rw [List.pairwise_cons] at ih
    rcases List.mem_cons.mp hx with rfl | hx
    · exact hcd
    · exact Nat.le_trans hcd (ih.1 x hx)
theorem sorted_one {cs : List Nat} (h : sortedS (cs.map fun d => tx [d]) = true) (nd : cs.Nodup) : cs.Pairwise (· < ·) := by
  cases cs with
  | nil => exact .nil
  | cons c cs =>
    have h : risingS (tx [c]) (cs.map fun d => tx [d]) = true := h
    rw [List.nodup_cons] at nd
    exact rising_one h nd.2 nd.1 (rising_le h)
theorem ones_of {x : List Nat} : ∀ {ys : List Str}, (∀ j ∈ ys, j ∈ x.map fun c => tx [c]) → ∃ cs : List Nat, ys = cs.map fun c => tx [c]
  | [], _ => ⟨[], rfl⟩
  | y :: ys, h => by
    obtain ⟨cs, e⟩ := ones_of (ys := ys) fun j hj => h j (by simp [hj])
    obtain ⟨c, _, e2⟩ := List.mem_map.mp (h y (by simp))
    exact ⟨c :: cs, by rw [List.map_cons, e, e2]⟩
theorem one_inj {c d : Nat} (h : tx [c] = tx [d]) : c = d := by simpa using tx_inj.mp h
theorem nodup_ones : ∀ {cs : List Nat}, (cs.map fun c => tx [c]).Nodup → cs.Nodup
  | [], _ => .nil
  | c :: cs, h => by
    rw [List.map_cons, List.nodup_cons] at h
    rw [List.nodup_cons]
    exact ⟨fun hc => h.1 (List.mem_map.mpr ⟨c, hc, rfl⟩), nodup_ones h.2⟩
/-! ### the rule -/
def SetGO (P : Program) (w : World) (a : Addr) (ks : List Str) : HO := .ext fun h => SetG (strKind P w) h a ks
theorem setGO_new {P : Program} {w : World} {H : Hp} {h : Heap} {a : Addr} {ks : List Str} (R : SetG (strKind P w) h a ks) : ObjOk P w H h a (SetGO P w a ks) := by
  have ⟨o, _, _, _, ho, _⟩ := R
  exact ⟨R, ⟨o, ho⟩, fun h1 h2 p k => SetG.at p k⟩
theorem setG_nd {P : Program} {w : World} {h : Heap} {a : Addr} {ks : List Str} (R : SetG (strKind P w) h a ks) : ks.Nodup := by
  obtain ⟨o, es, ep, t, ho, hex, hd, pr, nd, _⟩ := R
  exact nd
section
variable {X : Cx}
/-- set(x): of a text, of a tuple of ints -/
def rSetX (X : Cx) : List V → Hp → VK → Prop := fun xs H Q => (∃ z : List Nat, xs = [.str (tx z)] ∧ z.length ≤ 60 ∧ ∀ p ks, H p = none → (∀ j, j ∈ ks ↔ j ∈ z.map fun c => tx [c]) → ks.length ≤ z.length → ks.Nodup → Q (.ref p) (upd H p (SetGO X.prog X.w p ks))) ∨
  ∃ (l : Addr) (ns : List Int), xs = [.ref l] ∧ SqT X.K H l (ns.map V.int) ∧ ns.length ≤ 60 ∧ ∀ p c, H p = none → c ≤ ns.length → Q (.ref p) (upd H p (SetO X.w p (fun j => decide (j ∈ ns)) c))
theorem cr_setX (hc : X.calm = true) : CallR X (.type "set") (rSetX X) := by
  intro pins s σ H vs us Q I r h
  have hd := I.ok.hd hc
  have hn : H s.heap.objs.size = none := I.hok.fresh (Nat.le_refl _)
  rcases h with ⟨z, rfl, hz, q⟩ | ⟨l, ns, rfl, hq, hz, q⟩
  · cases r with
    | cons r1 rr =>
      cases rr
      obtain ⟨t, rfl⟩ := r1
      refine call_set_text hd (by unfold scanBound; omega) fun h' tk ks R hm hl k => ?_
      exact ⟨.ref _, upd H s.heap.objs.size (SetGO X.prog X.w s.heap.objs.size ks), I.laid (t' := tk) k (Nat.le_refl _) (setGO_new R), rfl, q _ ks hn hm hl (setG_nd R)⟩
  · cases r with
    | cons r1 rr =>
      cases rr
      cases r1
      obtain ⟨its, rv, pt, _⟩ := I.tuple hq
      have hi : IntsAre its.toArray.toList ns := ints_of_vals rv
      refine call_set_tupI ns hd (show s.heap.IsTuple l its.toArray from pt) hi (by unfold scanBound; omega) fun h' tk c R hcn k => ?_
      exact ⟨.ref _, upd H s.heap.objs.size (SetO X.w s.heap.objs.size (fun j => decide (j ∈ ns)) c), I.laid (t' := tk) k (Nat.le_refl _) (setO_new R), rfl, q _ c hn hcn⟩
def rSortX (X : Cx) : List V → Hp → VK → Prop := fun vs H Q => (∃ (a : Addr) (ks : List Str), vs = [V.ref a] ∧ H a = some (SetGO X.prog X.w a ks) ∧ ks.length < 64 ∧ ∀ ys p, ys.Perm ks → sortedS ys = true → H p = none → Q (.ref p) (upd H p (.lst (ys.map V.str)))) ∨ rSortedSet X.w vs H Q
theorem cr_sortX (hc : X.calm = true) : CallR X (.builtin "sorted") (rSortX X) := by
  intro pins s σ H vs us Q I r h
  rcases h with ⟨a, ks, rfl, ha, h64, q⟩ | h
  · have R : SetG (strKind X.prog X.w) s.heap a ks := (I.hok a _ ha).1
    rw [Vals.ref1 r]
    refine sorted_text R (I.ok.hd hc) h64 fun s' p out c ys k g o hp hg hS pm hs => ?_
    have hlen : (ys.map V.str).length ≤ sizeLine := by rw [List.length_map, pm.length_eq, sizeLine_eq]; omega
    have hn : H p = none := I.hok.fresh hp
    have J : Inv X pins σ (upd H p (.lst (ys.map V.str))) { s with heap := s'.heap, gens := s'.gens, drawn := s'.drawn, toks := s'.toks } :=
      I.call (ch := []) (Un.laid k hp hn) (I.hok.laid k hp ⟨hlen, out.toList, c, vals_of_strs hS, hg⟩) (by rw [g]; exact I.bare) (fun _ z => nomatch z)
    have e : s' = { s with heap := s'.heap, gens := s'.gens, drawn := s'.drawn, toks := s'.toks } := by
      cases s'
      cases s
      cases o
      rfl
    rw [e]
    exact ⟨.ref p, _, J, rfl, q ys p pm hs hn⟩
  · exact cr_sortedSet hc pins s σ H vs us Q I r h
variable {T : Tb} {W : WX} {m : ME} {e : Expr} {p p2 pos q : Pos}
/-- sorted(set(x)) -/
def dSortSet (m : ME) : ME := fun δ h Q E => m δ h (fun d h1 => match d with
  | .str x => x.length ≤ 60 ∧ ∀ cs : List Nat, cs.Pairwise (· < ·) → (∀ c, c ∈ cs ↔ c ∈ x) → ∀ p, h1 p = none → Q (.ref p) (put h1 p (.lst (cs.map fun c => .str [c])))
  | .tup ds => ∃ ns : List Int, ds = ns.map D.int ∧ ns.length ≤ 60 ∧ ∀ ms : List Int, ms.Pairwise (· < ·) → (∀ c, c ∈ ms ↔ c ∈ ns) → ∀ p, h1 p = none → Q (.ref p) (put h1 p (.lst (ms.map D.int)))
  | _ => False) E
theorem reps_ones {K : PySem.W.Frag} {H : Hp} : ∀ cs : List Nat, Reps K H (cs.map fun c => .str [c]) ((cs.map fun c => tx [c]).map V.str)
  | [] => Reps.nil
  | c :: cs => by rw [List.map_cons, List.map_cons, List.map_cons]; exact Reps.cons mk_str (reps_ones cs)
theorem de_sortSet (hc : X.calm = true) (hg : Gl X "sorted") (hm : X.mg "sorted" = none) (hv : bootBuiltins "sorted" = some (.builtin "sorted")) (hg2 : Gl X "set") (hm2 : X.mg "set" = none) (hv2 : bootBuiltins "set" = some (.type "set")) (he : DE X T W e m)
    (h1 : starEach [.Call (.Name "set" p2) [e] [] q] X.env = [(false, eval (.Call (.Name "set" p2) [e] [] q) X.env)] := by rfl) (h2 : starEach [e] X.env = [(false, eval e X.env)] := by rfl) :
    DE X T W (.Call (.Name "sorted" p) [.Call (.Name "set" p2) [e] [] q] [] pos) (dSortSet m) := by
  have inner := pe_callTy (p := p2) (pos := q) (es := []) (cr_setX hc) hg2 hm2 hv2 (pa_cons he pa_nil h2) (by decide) (by decide) h2 rfl
  refine pe_imp (pe_callB (p := p) (pos := pos) (es := []) (cr_sortX hc) hg hm hv (pa_cons inner pa_nil h1) (by decide) (by decide) h1 rfl) ?_
  rintro σ H Q ⟨δ, h, Q', E', rs, rh, q, k, kx⟩
  refine ⟨δ, h, _, E', rs, rh, q, fun v d H1 h1 x1 r1 rh1 q1 => ?_, kx⟩
  show rSetX X [v] H1 fun v2 H2 => rSortX X [v2] H2 Q
  cases d with
  | str z =>
    have ev := rel_str r1
    subst ev
    obtain ⟨hz, q1⟩ := q1
    refine .inl ⟨z, rfl, hz, fun p0 ks n0 hmem hl nd => .inl ⟨p0, ks, rfl, upd_same, by omega, fun ys p3 pm hs n3 => ?_⟩⟩
    obtain ⟨cs, ec⟩ := ones_of (x := z) (ys := ys) fun j hj => (hmem j).mp (pm.mem_iff.mp hj)
    subst ec
    have ndc := nodup_ones (pm.nodup_iff.mpr nd)
    obtain ⟨rh2, x2⟩ := rh1.hid (u := SetGO X.prog X.w p0 ks) n0
    obtain ⟨rh3, x3⟩ := RelH.newList rh2 n3 (reps_ones (K := X.K) (H := upd H1 p0 (SetGO X.prog X.w p0 ks)) cs)
    refine k _ _ _ _ (x1.trans (x2.trans x3)) mk_ref rh3 (q1 cs (sorted_one hs ndc) (fun c => ?_) p3 (rh2.fresh n3))
    have a1 := hmem (tx [c])
    have a2 := pm.mem_iff (a := tx [c])
    constructor
    · intro hc
      obtain ⟨d, hd, e⟩ := List.mem_map.mp (a1.mp (a2.mp (List.mem_map.mpr ⟨c, hc, rfl⟩)))
      exact one_inj e ▸ hd
    · intro hc
      obtain ⟨d, hd, e⟩ := List.mem_map.mp (a2.mpr (a1.mpr (List.mem_map.mpr ⟨c, hc, rfl⟩)))
      exact one_inj e ▸ hd
  | tup ds =>
    obtain ⟨ns, ed, hz, q1⟩ := q1
    subst ed
    obtain ⟨a, xs, e1, t1, rr⟩ := rel_tup r1
    have ex := ints_reps rr
    subst e1 ex
    refine .inr ⟨a, ns, rfl, t1.sqt, hz, fun p0 c n0 hcn => .inr ⟨p0, _, c, rfl, upd_same, by omega, fun ms p3 hs hmem hl n3 => ?_⟩⟩
    obtain ⟨rh2, x2⟩ := rh1.hid (u := SetO X.w p0 (fun j => decide (j ∈ ns)) c) n0
    obtain ⟨rh3, x3⟩ := RelH.newList rh2 n3 (reps_ints (K := X.K) (H := upd H1 p0 (SetO X.w p0 (fun j => decide (j ∈ ns)) c)) ms)
    exact k _ _ _ _ (x1.trans (x2.trans x3)) mk_ref rh3 (q1 ms hs (fun c => by rw [hmem c, decide_eq_true_eq]) p3 (rh2.fresh n3))
  | _ => exact False.elim q1
end
end Tw
/-! zip(text, tuple, strict=True), gathered into a list. -/
namespace Tw
open PySem PySem.Spec PyProof.Rows L2
theorem zip_type_kw (a b c : Value) : checkTypeCall "zip" ⟨[a, b], [(Str.ofString "strict", c)]⟩ = pure () := by kernel_rfl
theorem zip_new_kw (a b c : Value) : checkBuiltinCall "zip.__new__" ⟨[.type "zip", a, b], [(Str.ofString "strict", c)]⟩ = pure () := by kernel_rfl
theorem zip_init_kw (obj a b c : Value) : argsOk "object.__init__" ⟨[obj, a, b], [(Str.ofString "strict", c)]⟩ := by unfold argsOk; kernel_rfl
/-- a strict zip: its pair of iterators, of texts and tuples -/
abbrev ZipS (h : Heap) (z TI TO : Addr) (f0 : Value) (f1 : Bool) : Prop :=
  h.get? z = some { cls := .type "zip", dict := none, data := .fields #[f0, .bool f1, .bool true, .ref TI, .ref TO], slots := #[] }
abbrev zsH1 (h : Heap) (x : Str) (t : Tok) : Heap := h.push { cls := .type "str_ascii_iterator", data := .fields #[.str x t, .int 0 0] }
abbrev zsH2 (h : Heap) (x : Str) (t : Tok) (l : Addr) : Heap := (zsH1 h x t).push { cls := .type "tuple_iterator", data := .fields #[.ref l, .int 0 0] }
abbrev zsH3 (h : Heap) (x : Str) (t : Tok) (l : Addr) : Heap := (zsH2 h x t l).push { cls := .type "tuple", data := .seq #[.ref h.objs.size, .ref (zsH1 h x t).objs.size] }
abbrev zsH4 (h : Heap) (x : Str) (t : Tok) (l : Addr) : Heap := (zsH3 h x t l).push { cls := .type "tuple", data := .seq #[.none, .none] }
abbrev zsH5 (h : Heap) (x : Str) (t : Tok) (l : Addr) : Heap := (zsH4 h x t l).push { cls := .type "zip", data := .fields #[.none, .bool false, .bool true, .ref (zsH2 h x t l).objs.size, .ref (zsH3 h x t l).objs.size] }
theorem zs_new (x : Str) (t : Tok) (l : Addr) (ys : Array Value) (hx : x.cps.all (· < 128) = true) :
    Meets (Builtin.«zip.__new__» ⟨[.type "zip", .str x t, .ref l], [(Str.ofString "strict", .bool true)]⟩) (fun _ R s => s.heap.IsTuple l ys ∧
      R (.ok (.ret (.ref (zsH4 s.heap x t l).objs.size))) { s with heap := zsH5 s.heap x t l }) :=
  .of_wp fun prog w A R s h => by
    obtain ⟨hp, g, d, tk, os⟩ := s; obtain ⟨hl2, h⟩ := h
    have hsub := sub_zip
    have e2 : (Str.ofString "strict" != ("strict" : Str)) = false := by decide +kernel
    have hL2 : Heap.IsTuple (Shared.heap ⟨zsH1 hp x t, g, d, tk, os⟩) l ys := Heap.IsTuple.push hl2 _
    have q1 : ∀ {A' : Around} {E : Value → Shared → Prop} {Q : Value → Shared → Prop}, Q (.ref hp.objs.size) ⟨zsH1 hp x t, g, d, tk, os⟩ → wpAny (model prog w) A' (pyIter (.str x t)) Q E ⟨hp, g, d, tk, os⟩ :=
      fun q => wpAny_pyIter_ascii hx q
    have q2 : ∀ {A' : Around} {E : Value → Shared → Prop} {Q : Value → Shared → Prop}, Q (.ref (zsH1 hp x t).objs.size) ⟨zsH2 hp x t l, g, d, tk, os⟩ → wpAny (model prog w) A' (pyIter (.ref l)) Q E ⟨zsH1 hp x t, g, d, tk, os⟩ :=
      fun q => wpAny_pyIter_tuple hL2 q
    unfold Builtin.«zip.__new__»
    wp_walk using q1, q2
    exact ⟨_, rfl, h⟩

section
variable {P : Program} {w : World} {A : Around} {E : Value → Shared → Prop} {s : Shared}
theorem call_zipS {x : Str} {t : Tok} {l : Addr} {ys : Array Value} {Q : Value → Shared → Prop} (hx : x.cps.all (· < 128) = true) (hl2 : s.heap.IsTuple l ys)
    (h : ∀ h', ZipS h' (s.heap.objs.size + 4) (s.heap.objs.size + 2) (s.heap.objs.size + 3) .none false → IsPair h' (s.heap.objs.size + 2) (.ref s.heap.objs.size) (.ref (s.heap.objs.size + 1)) →
      IsPair h' (s.heap.objs.size + 3) .none .none → h'.IsStrIter s.heap.objs.size "str_ascii_iterator" x t 0 → h'.IsTupleIter (s.heap.objs.size + 1) l 0 → h'.objs.size = s.heap.objs.size + 5 →
      (∀ c o, s.heap.get? c = some o → h'.get? c = some o) → Q (.ref (s.heap.objs.size + 4)) { s with heap := h' }) :
    wpAny (model P w) A (call (.type "zip") [.str x t, .ref l] [(Str.ofString "strict", .bool true)]) Q E s := by
  refine PySem.callType_newKw F.called_zip (by decide) (zip_type_kw _ _ _) (zip_new_kw _ _ _) (fun obj => zip_init_kw obj _ _ _) F.entry_zip_new
    (zs_new x t l ys hx) ⟨hl2, ?_⟩
  have z1 : (zsH1 s.heap x t).objs.size = s.heap.objs.size + 1 := Heap.size_push ..
  have z2 : (zsH2 s.heap x t l).objs.size = s.heap.objs.size + 2 := by rw [Heap.size_push, z1]
  have z3 : (zsH3 s.heap x t l).objs.size = s.heap.objs.size + 3 := by rw [Heap.size_push, z2]
  have z4 : (zsH4 s.heap x t l).objs.size = s.heap.objs.size + 4 := by rw [Heap.size_push, z3]
  have z5 : (zsH5 s.heap x t l).objs.size = s.heap.objs.size + 5 := by rw [Heap.size_push, z4]
  have g5 : (zsH5 s.heap x t l).get? (zsH4 s.heap x t l).objs.size = some _ := Heap.get?_push_size _ rfl
  have g4 : (zsH5 s.heap x t l).get? (zsH3 s.heap x t l).objs.size = some _ := Heap.get?_push_of_some _ (Heap.get?_push_size _ rfl)
  have g3 : (zsH5 s.heap x t l).get? (zsH2 s.heap x t l).objs.size = some _ := Heap.get?_push_of_some _ (Heap.get?_push_of_some _ (Heap.get?_push_size _ rfl))
  have g2 : (zsH5 s.heap x t l).get? (zsH1 s.heap x t).objs.size = some _ := Heap.get?_push_of_some _ (Heap.get?_push_of_some _ (Heap.get?_push_of_some _ (Heap.get?_push_size _ rfl)))
  have g1 : (zsH5 s.heap x t l).get? s.heap.objs.size = some _ := Heap.get?_push_of_some _ (Heap.get?_push_of_some _ (Heap.get?_push_of_some _ (Heap.get?_push_of_some _ (Heap.get?_push_size _ rfl))))
  show _ ∧ _
  rw [z2, z3, z4] at g5
  rw [z1, z2] at g3
  rw [z3] at g4
  rw [z1] at g2
  rw [z4]
  exact ⟨⟨_, g5, rfl⟩, h _ g5 g3 g4 ⟨_, g1, rfl, rfl⟩ ⟨_, g2, rfl, rfl⟩ z5 fun c o x =>
    Heap.get?_push_of_some _ (Heap.get?_push_of_some _ (Heap.get?_push_of_some _ (Heap.get?_push_of_some _ (Heap.get?_push_of_some _ x))))⟩
/-! the two iterators' next -/
theorem next_sign {it : Addr} {x : Str} {t : Tok} {i c : Nat} {Q : Option Value → Shared → Prop} (hit : s.heap.IsStrIter it "str_ascii_iterator" x t i) (hx : x.cps[i]? = some c)
    (hQ : ∀ h', h'.IsStrIter it "str_ascii_iterator" x t (i + 1) → Heap.SameBut it s.heap h' → Q (some (.str ⟨#[c]⟩ s.toks)) { s with heap := h', toks := s.toks + 1 }) :
    wpAny (model P w) A (Builtin.SmallTypes.nextOrEnd (.ref it)) Q E s := by
  obtain ⟨o, ho, hc, hd⟩ := id hit
  unfold Builtin.SmallTypes.nextOrEnd Builtin.SmallTypes.nextOf
  refine wpAny_bind (wpAny_attempt (wpAny_bind (wpAny_callSpecial?_slot (name := Str.ofString "__next__") hit.typeIs F.slot_str_ascii_iterator_next
    (wpAny_call_entry F.slot_str_ascii_iterator_next hit.typeIs F.entry_str_ascii_iterator_next ?_ (F.args_str_ascii_iterator_next_1 _)))))
  show wpAny _ _ (field (.ref it) 0 >>= _) _ _ s
  refine wpAny_bind (wpAny_field ho hd (x := .str x t) rfl ?_)
  show wpAny _ _ (field (.ref it) 1 >>= _) _ _ s
  refine wpAny_bind (wpAny_field ho hd (x := .int i 0) rfl ?_)
  simp only [Int.toNat_natCast, hx]
  refine wpAny_bind (wpAny_setField ho hd (by simp) (wpAny_bind (wpAny_mkStr (wpAny_pure ⟨_, rfl, wpAny_pure (wpAny_pure (hQ _ ?_ (Heap.SameBut.update ..)))⟩) (by show 1 ≤ sizeLine; decide))))
  exact ⟨_, Heap.get?_update_self _ ho (Obj.isFreed_of_fields (Obj.data_mapFields hd _)), (Obj.cls_mapFields ..).trans hc, by
    rw [Obj.data_mapFields hd]; simp [rawInt]⟩
theorem next_sign_end {it : Addr} {x : Str} {t : Tok} {i : Nat} {Q : Option Value → Shared → Prop} (hh : A.handled = none)
    (hit : s.heap.IsStrIter it "str_ascii_iterator" x t i) (hx : x.cps[i]? = none)
    (hQ : ∀ h', Heap.ExtBut it s.heap h' → Q none { s with heap := h' }) : wpAny (model P w) A (Builtin.SmallTypes.nextOrEnd (.ref it)) Q E s := by
  obtain ⟨o, ho, hc, hd⟩ := id hit
  unfold Builtin.SmallTypes.nextOrEnd Builtin.SmallTypes.nextOf
  refine wpAny_bind (wpAny_attempt (wpAny_bind (wpAny_callSpecial?_slot (name := Str.ofString "__next__") hit.typeIs F.slot_str_ascii_iterator_next
    (wpAny_call_entry F.slot_str_ascii_iterator_next hit.typeIs F.entry_str_ascii_iterator_next ?_ (F.args_str_ascii_iterator_next_1 _)))))
  show wpAny _ _ (field (.ref it) 0 >>= _) _ _ s
  refine wpAny_bind (wpAny_field ho hd (x := .str x t) rfl ?_)
  show wpAny _ _ (field (.ref it) 1 >>= _) _ _ s
  refine wpAny_bind (wpAny_field ho hd (x := .int i 0) rfl ?_)
  simp only [Int.toNat_natCast, hx]
  refine wpAny_bind (wpAny_rule (wpAny_bind (wpAny_setField ho hd (by simp) (wpAny_bind (wpAny_letGo ?_)))))
  show wpAny _ _ (newExc (.type "StopIteration") [] >>= _) _ _ _
  refine wpAny_bind ?_
  simp only [newExc, newTuple]
  refine wpAny_bind (wpAny_newObj_type ?_ (by size_fits))
  refine wpAny_bind (m := firstArgMember _ _) (wpAny_of_eq (a := Value.none) (by first | rfl | (simp only [firstArgMember]; rfl)) ?_)
  refine wpAny_newObj_type ?_ (by size_fits)
  simp only [raiseNew]
  refine wpAny_bind (wpAny_handled ?_)
  rw [show A.in1.handled = none from hh]
  refine wpAny_bind (wpAny_pure (wpAny_throw ?_))
  refine wpAny_bind (wpAny_isInstance (T := "StopIteration") (b := true) ⟨_, Heap.get?_push_size _ rfl, rfl⟩ isSubtype_stop ?_)
  exact wpAny_pure (hQ _ (((Heap.SameBut.update ..).extBut.push _).push _))
theorem next_item {it l : Addr} {i : Nat} {items : Array Value} {y : Value} {Q : Option Value → Shared → Prop} (hit : s.heap.IsTupleIter it l i)
    (hl : s.heap.IsTuple l items) (hy : items[i]? = some y) (hQ : ∀ h', h'.IsTupleIter it l (i + 1) → Heap.SameBut it s.heap h' → Q (some y) { s with heap := h' }) :
    wpAny (model P w) A (Builtin.SmallTypes.nextOrEnd (.ref it)) Q E s := by
  unfold Builtin.SmallTypes.nextOrEnd
  exact wpAny_bind (wpAny_attempt (RZ.nextOf_tuple_item hit hl hy fun h' a b => wpAny_pure (hQ h' a b)))
theorem next_item_end {it l : Addr} {i : Nat} {items : Array Value} {Q : Option Value → Shared → Prop} (hh : A.handled = none) (hit : s.heap.IsTupleIter it l i)
    (hl : s.heap.IsTuple l items) (hy : items[i]? = none) (hQ : ∀ h', Heap.ExtBut it s.heap h' → Q none { s with heap := h' }) :
    wpAny (model P w) A (Builtin.SmallTypes.nextOrEnd (.ref it)) Q E s := by
  unfold Builtin.SmallTypes.nextOrEnd
  refine wpAny_bind (wpAny_attempt (RZ.nextOf_tuple_end hh hit hl hy fun h' e k ⟨o, ho, hc⟩ => ?_))
  refine wpAny_bind (wpAny_isInstance (T := "StopIteration") (b := true) ⟨o, ho, hc⟩ isSubtype_stop ?_)
  exact wpAny_pure (hQ _ k)
end
end Tw
/-! zip(text, tuple, strict=True): its turns. -/
namespace Tw
open PySem PySem.Spec PyProof.Rows L2
abbrev PairO (h : Heap) (T : Addr) (c : Nat) (u : Tok) (y : Value) : Prop := h.get? T = some { cls := .type "tuple", data := .seq #[.str ⟨#[c]⟩ u, y] }
structure ZSt (h : Heap) (z TI TO i1 i2 l : Addr) (x : Str) (t : Tok) (ys : Array Value) (k : Nat) (acc : Array Value) : Prop where
  zip : (k = 0 ∧ ZipS h z TI TO .none false) ∨ (0 < k ∧ ∃ T f1, ZipS h z TI TO (rawInt (T : Nat)) f1 ∧ ∃ o, h.get? T = some o ∧ o.cls = .type "tuple")
  ti : IsPair h TI (.ref i1) (.ref i2)
  to : ∃ a b, IsPair h TO a b
  s1 : h.IsStrIter i1 "str_ascii_iterator" x t k
  s2 : h.IsTupleIter i2 l k
  tup : h.IsTuple l ys
  sz : acc.size = k
  its : ∀ (j : Nat) (v : Value), acc[j]? = some v → ∃ (T : Addr) (c : Nat) (u : Tok) (y : Value), v = Value.ref T ∧ PairO h T c u y ∧ x.cps[j]? = some c ∧ ys[j]? = some y ∧ TO < T
section
variable {P : Program} {w : World} {A : Around} {E : Value → Shared → Prop} {s : Shared}
theorem wpAny_alive {a : Addr} {Q : Option Obj → Shared → Prop} (h : Q (s.heap.get? a) s) : wpAny (model P w) A (loadIfAlive a) Q E s := fun Γ p hΓ => by
  unfold loadIfAlive
  rw [Sem.wp_loadIfAlive]
  exact (wpAny_pure (M := model P w) (A := A) (E := E) (a := s.heap.get? a) h) Γ p hΓ
variable {z TI TO i1 i2 l : Addr} {x : Str} {t : Tok} {ys : Array Value} {k c : Nat} {y : Value} {acc : Array Value}
theorem zs_next0 (D : ZipApart z TI TO i1 i2 l l) (st : ZSt s.heap z TI TO i1 i2 l x t ys 0 #[]) (hx : x.cps[0]? = some c) (hy : ys[0]? = some y) {Q : Value → Shared → Prop}
    (hQ : ∀ (T : Addr) h' tk, ZSt h' z TI TO i1 i2 l x t ys 1 #[.ref T] → (∀ b o, b ≠ z → b ≠ TO → b ≠ i1 → b ≠ i2 → s.heap.get? b = some o → h'.get? b = some o) → Q (.ref T) { s with heap := h', toks := tk }) :
    wpAny (model P w) A (Builtin.«zip.__next__» ⟨[.ref z], []⟩) (fun fin s' => ∃ v, fin = .done (.ret v) ∧ Q v s') E s := by
  have hz : ZipS s.heap z TI TO .none false := by
    rcases st.zip with h | h
    · exact h.2
    · exact absurd h.1 (by decide)
  obtain ⟨a, b, hTO⟩ := st.to
  have hTI := st.ti
  have h1 := st.s1
  have h2 := st.s2
  have hl2 := st.tup
  show wpAny _ _ (field (.ref z) 2 >>= _) _ _ _
  refine wpAny_bind (wpAny_field hz rfl (x := .bool true) rfl ?_)
  show wpAny _ _ (field (.ref z) 3 >>= _) _ _ _
  refine wpAny_bind (wpAny_field hz rfl (x := .ref TI) rfl ?_)
  refine wpAny_bind (wpAny_seqItems hTI rfl ?_)
  show wpAny _ _ (Builtin.SmallTypes.ownedTupleIsFree (.ref z) >>= _) _ _ _
  refine wpAny_bind ?_
  unfold Builtin.SmallTypes.ownedTupleIsFree
  refine wpAny_bind (wpAny_field hz rfl (x := .none) rfl (wpAny_pure ?_))
  simp only [if_true]
  refine wpAny_bind (wpAny_rule ?_)
  refine wpAny_bind (wpAny_field hz rfl (x := .ref TO) rfl ?_)
  refine wpAny_bind (wpAny_setField_rec hz (by simp) fun h₁ hz₁ hs₁ => ?_)
  replace hz₁ : ZipS h₁ z TI TO .ellipsis false := hz₁
  refine wpAny_bind ?_
  simp only [List.zipIdx_cons, List.zipIdx_nil, List.forIn_cons, List.forIn_nil]
  refine wpAny_bind (wpAny_bind (wpAny_onRaise ?_))
  show wpAny _ _ (Builtin.SmallTypes.nextOrEnd (.ref i1)) _ _ _
  refine next_sign (s := { s with heap := h₁ }) (h1.extBut hs₁.extBut D.i1z) hx fun h₂ h1₂ hs₂ => ?_
  have hTO₂ : IsPair h₂ TO a b := hs₂.extBut _ _ D.TOi1 (hs₁.extBut _ _ D.TOz hTO)
  refine wpAny_bind (wpAny_seqItems hTO₂ rfl ?_)
  refine wpAny_bind (wpAny_updateSeq_pair hTO₂ fun h₃ hTO₃ hs₃ => ?_)
  replace hTO₃ : IsPair h₃ TO (.str ⟨#[c]⟩ s.toks) b := hTO₃
  refine wpAny_bind (wpAny_letGo (wpAny_pure ?_))
  refine wpAny_bind (wpAny_bind (wpAny_onRaise ?_))
  show wpAny _ _ (Builtin.SmallTypes.nextOrEnd (.ref i2)) _ _ _
  refine next_item (((h2.extBut hs₁.extBut D.i2z).extBut hs₂.extBut D.i12.symm).extBut hs₃.extBut D.TOi2.symm)
    (((hl2.extBut hs₁.extBut D.l2z).extBut hs₂.extBut D.l2i1).extBut hs₃.extBut D.l2TO) hy fun h₄ h2₄ hs₄ => ?_
  have hTO₄ : IsPair h₄ TO (.str ⟨#[c]⟩ s.toks) b := hs₄.extBut _ _ D.TOi2 hTO₃
  refine wpAny_bind (wpAny_seqItems hTO₄ rfl ?_)
  refine wpAny_bind (wpAny_updateSeq_pair hTO₄ fun h₅ hTO₅ hs₅ => ?_)
  replace hTO₅ : IsPair h₅ TO (.str ⟨#[c]⟩ s.toks) y := hTO₅
  refine wpAny_bind (wpAny_letGo (wpAny_pure (wpAny_pure ?_)))
  refine wpAny_bind (wpAny_seqItems hTO₅ rfl ?_)
  refine wpAny_bind (wpAny_newTuple ?_)
  have hz₅ : ZipS h₅ z TI TO .ellipsis false := hs₅.extBut _ _ D.TOz.symm (hs₄.extBut _ _ D.i2z.symm (hs₃.extBut _ _ D.TOz.symm (hs₂.extBut _ _ D.i1z.symm hz₁)))
  have hk₅ : ∀ c o, c ≠ z → c ≠ TO → c ≠ i1 → c ≠ i2 → s.heap.get? c = some o → h₅.get? c = some o := fun c o c1 c2 c3 c4 e =>
    hs₅.extBut _ _ c2 (hs₄.extBut _ _ c4 (hs₃.extBut _ _ c2 (hs₂.extBut _ _ c3 (hs₁.extBut _ _ c1 e))))
  have h1₅ : h₅.IsStrIter i1 "str_ascii_iterator" x t 1 := ((h1₂.extBut hs₃.extBut D.TOi1.symm).extBut hs₄.extBut D.i12).extBut hs₅.extBut D.TOi1.symm
  have h2₅ : h₅.IsTupleIter i2 l 1 := h2₄.extBut hs₅.extBut D.TOi2.symm
  have hzlt : z < h₅.objs.size := Heap.lt_size hz₅
  show wpAny _ _ (Builtin.SmallTypes.ownedTupleHandOut (.ref z) (.ref h₅.objs.size) >>= _) _ _ _
  refine wpAny_bind ?_
  unfold Builtin.SmallTypes.ownedTupleHandOut
  have hz₆ : ZipS (h₅.push { cls := .type "tuple", data := .seq #[.str ⟨#[c]⟩ s.toks, y] }) z TI TO .ellipsis false := Heap.get?_push_of_some _ hz₅
  refine wpAny_bind (wpAny_setField_rec hz₆ (by simp) fun h₇ hz₇ hs₇ => ?_)
  replace hz₇ : ZipS h₇ z TI TO (rawInt h₅.objs.size) false := hz₇
  refine wpAny_setField_rec hz₇ (by simp) fun h₈ hz₈ hs₈ => ?_
  replace hz₈ : ZipS h₈ z TI TO (rawInt h₅.objs.size) false := hz₈
  have up : ∀ c o, c ≠ z → h₅.get? c = some o → h₈.get? c = some o := fun c o c1 e => hs₈.extBut _ _ c1 (hs₇.extBut _ _ c1 (Heap.get?_push_of_some _ e))
  have hT₈ : PairO h₈ h₅.objs.size c s.toks y := hs₈.extBut _ _ (Nat.ne_of_gt hzlt) (hs₇.extBut _ _ (Nat.ne_of_gt hzlt) (Heap.get?_push_size _ rfl))
  refine wpAny_pure ⟨_, rfl, ?_⟩
  refine hQ h₅.objs.size h₈ (s.toks + 1) ⟨.inr ⟨by decide, _, _, hz₈, _, hT₈, rfl⟩, up _ _ D.TIz (hk₅ _ _ D.TIz D.TITO D.TIi1 D.TIi2 hTI), ⟨_, _, up _ _ D.TOz hTO₅⟩, (let ⟨o, e, r⟩ := h1₅; ⟨o, up _ o D.i1z e, r⟩), h2₅.at fun o e => up _ o D.i2z e,
    hl2.at fun o e => up _ o D.l2z (hk₅ _ o D.l2z D.l2TO D.l2i1 D.l2i2 e), rfl, fun j v hj => ?_⟩ fun c o c1 c2 c3 c4 e => up c o c1 (hk₅ c o c1 c2 c3 c4 e)
  have hj0 : j = 0 := by
    have := (Array.getElem?_eq_some_iff.mp hj).1
    simpa using this
  subst hj0
  have : v = .ref h₅.objs.size := by simpa using hj.symm
  exact ⟨_, c, _, y, this, hT₈, hx, hy, Heap.lt_size hTO₅⟩
theorem zs_free {T : Addr} {f1 : Bool} (hz : ZipS s.heap z TI TO (rawInt (T : Nat)) f1) (hT : ∃ o, s.heap.get? T = some o) {Q : Bool → Shared → Prop}
    (hQ : ∀ h', ZipS h' z TI TO (rawInt (T : Nat)) true → Heap.ExtBut z s.heap h' → Q false { s with heap := h' }) : wpAny (model P w) A (Builtin.SmallTypes.ownedTupleIsFree (.ref z)) Q E s := by
  obtain ⟨o, ho⟩ := hT
  unfold Builtin.SmallTypes.ownedTupleIsFree
  refine wpAny_bind (wpAny_field hz rfl (x := rawInt (T : Nat)) rfl ?_)
  show wpAny _ _ (loadIfAlive (Int.toNat (T : Nat)) >>= _) _ _ _
  refine wpAny_bind (wpAny_alive ?_)
  rw [Int.toNat_natCast, ho]
  simp only [Option.isNone_some, Bool.false_eq_true, if_false]
  refine wpAny_bind (wpAny_field hz rfl (x := .bool f1) rfl ?_)
  cases f1 with
  | true =>
    have e : ((Value.bool true : Value) != Value.bool true) = false := by decide
    simp only [e, Bool.false_eq_true, if_false]
    exact wpAny_bind (wpAny_pure (wpAny_pure (hQ _ hz fun b o _ e => e)))
  | false =>
    have e : ((Value.bool false : Value) != Value.bool true) = true := by decide
    simp only [e, if_true]
    refine wpAny_bind (wpAny_setField_rec hz (by simp) fun h₁ hz₁ hs₁ => wpAny_pure ?_)
    replace hz₁ : ZipS h₁ z TI TO (rawInt (T : Nat)) true := hz₁
    exact hQ _ hz₁ hs₁.extBut
theorem zs_next (D : ZipApart z TI TO i1 i2 l l) (hk : 0 < k) (st : ZSt s.heap z TI TO i1 i2 l x t ys k acc) (hx : x.cps[k]? = some c) (hy : ys[k]? = some y) {Q : Value → Shared → Prop}
    (hQ : ∀ (T : Addr) h' tk, ZSt h' z TI TO i1 i2 l x t ys (k + 1) (acc.push (.ref T)) → (∀ b o, b ≠ z → b ≠ TO → b ≠ i1 → b ≠ i2 → s.heap.get? b = some o → h'.get? b = some o) → Q (.ref T) { s with heap := h', toks := tk }) :
    wpAny (model P w) A (Builtin.«zip.__next__» ⟨[.ref z], []⟩) (fun fin s' => ∃ v, fin = .done (.ret v) ∧ Q v s') E s := by
  obtain ⟨T, f1, hz, hT⟩ : ∃ (T : Addr) (f1 : Bool), ZipS s.heap z TI TO (rawInt (T : Nat)) f1 ∧ ∃ o, s.heap.get? T = some o ∧ o.cls = .type "tuple" := by
    rcases st.zip with h | h
    · exact absurd h.1 (by omega)
    · exact h.2
  obtain ⟨a, b, hTO⟩ := st.to
  have hTI := st.ti
  have h1 := st.s1
  have h2 := st.s2
  have hl2 := st.tup
  show wpAny _ _ (field (.ref z) 2 >>= _) _ _ _
  refine wpAny_bind (wpAny_field hz rfl (x := .bool true) rfl ?_)
  show wpAny _ _ (field (.ref z) 3 >>= _) _ _ _
  refine wpAny_bind (wpAny_field hz rfl (x := .ref TI) rfl ?_)
  refine wpAny_bind (wpAny_seqItems hTI rfl ?_)
  show wpAny _ _ (Builtin.SmallTypes.ownedTupleIsFree (.ref z) >>= _) _ _ _
  refine wpAny_bind (zs_free hz (let ⟨o, e, _⟩ := hT; ⟨o, e⟩) fun h₁ hz₁ hs₁ => ?_)
  simp only [Bool.false_eq_true, if_false]
  refine wpAny_bind ?_
  rw [← Array.forIn_toList]
  simp only [List.forIn_cons, List.forIn_nil]
  refine wpAny_bind (wpAny_bind (wpAny_holding ?_))
  show wpAny _ _ (Builtin.SmallTypes.nextOrEnd (.ref i1)) _ _ _
  have ext1 : ∀ {h h' : Heap}, Heap.ExtBut z h h' → h.IsStrIter i1 "str_ascii_iterator" x t k → h'.IsStrIter i1 "str_ascii_iterator" x t k := fun e q => let ⟨o, q1, r⟩ := q; ⟨o, e _ _ D.i1z q1, r⟩
  refine next_sign (s := { s with heap := h₁ }) (ext1 hs₁ h1) hx fun h₂ h1₂ hs₂ => wpAny_pure ?_
  refine wpAny_bind (wpAny_bind (wpAny_holding ?_))
  show wpAny _ _ (Builtin.SmallTypes.nextOrEnd (.ref i2)) _ _ _
  have h2₂ : h₂.IsTupleIter i2 l k := (h2.at fun o e => hs₂.extBut _ _ D.i12.symm (hs₁ _ _ D.i2z e))
  have hl₂ : h₂.IsTuple l ys := hl2.at fun o e => hs₂.extBut _ _ D.l2i1 (hs₁ _ _ D.l2z e)
  refine next_item h2₂ hl₂ hy fun h₃ h2₃ hs₃ => wpAny_pure (wpAny_pure ?_)
  refine wpAny_bind (wpAny_newTuple ?_ (by show 2 ≤ sizeLine; decide))
  have kp : ∀ b o, b ≠ z → b ≠ i1 → b ≠ i2 → s.heap.get? b = some o → h₃.get? b = some o := fun b o c1 c3 c4 e => hs₃.extBut _ _ c4 (hs₂.extBut _ _ c3 (hs₁ _ _ c1 e))
  have hz₃ : ZipS h₃ z TI TO (rawInt (T : Nat)) true := hs₃.extBut _ _ D.i2z.symm (hs₂.extBut _ _ D.i1z.symm hz₁)
  have up : ∀ b o, h₃.get? b = some o → (h₃.push { cls := .type "tuple", data := .seq #[.str ⟨#[c]⟩ s.toks, y] }).get? b = some o := fun b o e => Heap.get?_push_of_some _ e
  have hT₃ : PairO (h₃.push { cls := .type "tuple", data := .seq #[.str ⟨#[c]⟩ s.toks, y] }) h₃.objs.size c s.toks y := Heap.get?_push_size _ rfl
  refine wpAny_pure ⟨_, rfl, ?_⟩
  have iter1 : ∀ {o : Obj}, h₂.get? i1 = some o → (h₃.push { cls := .type "tuple", data := .seq #[.str ⟨#[c]⟩ s.toks, y] }).get? i1 = some o := fun e => up _ _ (hs₃.extBut _ _ D.i12 e)
  have noT : ∀ {T : Addr} {c' : Nat} {u' : Tok} {y' : Value}, PairO s.heap T c' u' y' → T ≠ z ∧ T ≠ i1 ∧ T ≠ i2 := fun {T c' u' y'} q => by
    refine ⟨fun e => ?_, fun e => ?_, fun e => ?_⟩
    · subst e
      have q : s.heap.get? T = _ := q
      rw [hz] at q; simp at q
    · subst e
      obtain ⟨o, q1, q2, _⟩ := h1
      have q : s.heap.get? T = _ := q
      rw [q] at q1; cases q1; simp at q2
    · subst e
      obtain ⟨o, q1, q2, _⟩ := h2
      have q : s.heap.get? T = _ := q
      rw [q] at q1; cases q1; simp at q2
  refine hQ h₃.objs.size _ (s.toks + 1) ⟨.inr ⟨by omega, T, true, up _ _ hz₃, ?_⟩, up _ _ (kp _ _ D.TIz D.TIi1 D.TIi2 hTI), ⟨_, _, up _ _ (kp _ _ D.TOz D.TOi1 D.TOi2 hTO)⟩, (let ⟨o, e, r⟩ := h1₂; ⟨o, iter1 e, r⟩),
    h2₃.at fun o e => up _ o e, hl2.at fun o e => up _ o (kp _ o D.l2z D.l2i1 D.l2i2 e), by rw [Array.size_push, st.sz], fun j v hj => ?_⟩ fun b o c1 _ c3 c4 e => up _ _ (kp b o c1 c3 c4 e)
  · obtain ⟨o, ho, hc⟩ := hT
    refine ⟨o, up _ _ (kp _ _ (fun e => ?_) (fun e => ?_) (fun e => ?_) ho), hc⟩
    · subst e
      rw [hz] at ho; cases ho; simp at hc
    · subst e
      obtain ⟨o1, q1, q2, _⟩ := h1
      rw [q1] at ho; cases ho; rw [q2] at hc; simp at hc
    · subst e
      obtain ⟨o1, q1, q2, _⟩ := h2
      rw [q1] at ho; cases ho; rw [q2] at hc; simp at hc
  · rw [Array.getElem?_push] at hj
    split at hj
    · rename_i e
      have hj2 : v = Value.ref h₃.objs.size := by simpa using hj.symm
      subst hj2
      refine ⟨_, c, _, y, rfl, hT₃, ?_, ?_⟩
      · rw [e, st.sz]; exact hx
      · rw [e, st.sz]; exact ⟨hy, Heap.lt_size (kp _ _ D.TOz D.TOi1 D.TOi2 hTO)⟩
    · obtain ⟨T', c', u', y', e1, e2, e3, e4, e5⟩ := st.its j v hj
      obtain ⟨n1, n2, n3⟩ := noT e2
      exact ⟨T', c', u', y', e1, up _ _ (kp _ _ n1 n2 n3 e2), e3, e4, e5⟩
/-- both have ended -/
theorem zs_end (hh : A.handled = none) (D : ZipApart z TI TO i1 i2 l l) (hk : 0 < k) (st : ZSt s.heap z TI TO i1 i2 l x t ys k acc) (hx : x.cps[k]? = none) (hy : ys[k]? = none) {Q : Fin → Shared → Prop}
    (hE : ∀ h' e, (∀ b o, b ≠ z → b ≠ TO → b ≠ i1 → b ≠ i2 → s.heap.get? b = some o → h'.get? b = some o) → (∃ o, h'.get? e = some o ∧ o.cls = .type "StopIteration") → E (.ref e) { s with heap := h' }) :
    wpAny (model P w) A (Builtin.«zip.__next__» ⟨[.ref z], []⟩) Q E s := by
  obtain ⟨T, f1, hz, hT⟩ : ∃ (T : Addr) (f1 : Bool), ZipS s.heap z TI TO (rawInt (T : Nat)) f1 ∧ ∃ o, s.heap.get? T = some o ∧ o.cls = .type "tuple" := by
    rcases st.zip with h | h
    · exact absurd h.1 (by omega)
    · exact h.2
  have hTI := st.ti
  have h1 := st.s1
  have h2 := st.s2
  have hl2 := st.tup
  show wpAny _ _ (field (.ref z) 2 >>= _) _ _ _
  refine wpAny_bind (wpAny_field hz rfl (x := .bool true) rfl ?_)
  show wpAny _ _ (field (.ref z) 3 >>= _) _ _ _
  refine wpAny_bind (wpAny_field hz rfl (x := .ref TI) rfl ?_)
  refine wpAny_bind (wpAny_seqItems hTI rfl ?_)
  show wpAny _ _ (Builtin.SmallTypes.ownedTupleIsFree (.ref z) >>= _) _ _ _
  refine wpAny_bind (zs_free hz (let ⟨o, e, _⟩ := hT; ⟨o, e⟩) fun h₁ hz₁ hs₁ => ?_)
  simp only [Bool.false_eq_true, if_false]
  refine wpAny_bind ?_
  rw [← Array.forIn_toList]
  simp only [List.forIn_cons, List.forIn_nil]
  refine wpAny_bind (wpAny_bind (wpAny_holding ?_))
  show wpAny _ _ (Builtin.SmallTypes.nextOrEnd (.ref i1)) _ _ _
  have ext1 : ∀ {h h' : Heap}, Heap.ExtBut z h h' → h.IsStrIter i1 "str_ascii_iterator" x t k → h'.IsStrIter i1 "str_ascii_iterator" x t k := fun e q => let ⟨o, q1, r⟩ := q; ⟨o, e _ _ D.i1z q1, r⟩
  refine next_sign_end (s := { s with heap := h₁ }) hh (ext1 hs₁ h1) hx fun h₂ hs₂ => ?_
  refine wpAny_bind ?_
  wp_delta
  rw [if_neg (by simp)]
  simp only [List.drop_succ_cons, List.drop_zero, List.zipIdx_cons, List.zipIdx_nil, List.forIn_cons, List.forIn_nil]
  refine wpAny_bind (wpAny_bind (wpAny_bind ?_))
  have h2₂ : h₂.IsTupleIter i2 l k := h2.at fun o e => hs₂ _ _ D.i12.symm (hs₁ _ _ D.i2z e)
  have hl₂ : h₂.IsTuple l ys := hl2.at fun o e => hs₂ _ _ D.l2i1 (hs₁ _ _ D.l2z e)
  refine next_item_end (s := { s with heap := h₂ }) hh h2₂ hl₂ hy fun h₃ hs₃ => ?_
  simp only [Option.isSome_none, Bool.false_eq_true, if_false]
  refine wpAny_pure (wpAny_pure (wpAny_bind (wpAny_rule ?_)))
  unfold Builtin.SmallTypes.stopIteration
  refine wpAny_bind ?_
  simp only [newExc, newTuple]
  refine wpAny_bind (wpAny_newObj_type ?_ (by size_fits))
  refine wpAny_bind (m := firstArgMember _ _) (wpAny_of_eq (a := Value.none) (by first | rfl | (simp only [firstArgMember]; rfl)) ?_)
  refine wpAny_newObj_type ?_ (by size_fits)
  simp only [raiseNew]
  refine wpAny_bind (wpAny_handled ?_)
  first | rw [show A.in1.handled = none from hh] | rw [hh]
  refine wpAny_bind (wpAny_pure (wpAny_throw ?_))
  exact hE _ _ (fun b o c1 _ c3 c4 e => Heap.get?_push_of_some _ (Heap.get?_push_of_some _ (hs₃ _ _ c4 (hs₂ _ _ c3 (hs₁ _ _ c1 e))))) ⟨_, Heap.get?_push_size _ rfl, rfl⟩
end
end Tw
/-! list(zip(text, tuple, strict=True)). -/
namespace Tw
open PySem PySem.Spec PyProof.Rows L2
theorem zip_nolen : typeLookup (.type "zip") "__len__" = pure none := by rw [typeLookup_type, builtinLookup_eq_fast]; kernel_rfl
theorem zip_nohint : typeLookup (.type "zip") "__length_hint__" = pure none := by rw [typeLookup_type, builtinLookup_eq_fast]; kernel_rfl
section
variable {P : Program} {w : World} {A : Around} {E : Value → Shared → Prop} {s : Shared}
variable {z TI TO i1 i2 l S : Addr} {x : Str} {t : Tok} {ys : Array Value} {k c : Nat} {y : Value} {acc : Array Value}
theorem ZSt.at_z (st : ZSt s.heap z TI TO i1 i2 l x t ys k acc) : s.TypeIs (.ref z) "zip" := by
  rcases st.zip with ⟨_, h⟩ | ⟨_, _, _, h, _⟩
  · exact ⟨_, h, rfl⟩
  · exact ⟨_, h, rfl⟩
theorem py_item (D : ZipApart z TI TO i1 i2 l l) (st : ZSt s.heap z TI TO i1 i2 l x t ys k acc) (hx : x.cps[k]? = some c) (hy : ys[k]? = some y) {Q : Option Value → Shared → Prop}
    (hQ : ∀ (T : Addr) h' tk, ZSt h' z TI TO i1 i2 l x t ys (k + 1) (acc.push (.ref T)) → (∀ b o, b ≠ z → b ≠ TO → b ≠ i1 → b ≠ i2 → s.heap.get? b = some o → h'.get? b = some o) → Q (some (.ref T)) { s with heap := h', toks := tk }) :
    wpAny (model P w) A (pyNext (.ref z)) Q E s := by
  have hT := st.at_z
  unfold pyNext
  refine wpAny_bind (wpAny_attempt (wpAny_callSpecial?_slot (name := Str.ofString "__next__") hT F.slot_zip_next (wpAny_call_entry F.slot_zip_next hT F.entry_zip_next ?_ (F.args_zip_next_1 _))))
  by_cases hk : 0 < k
  · exact zs_next D hk st hx hy fun T h' tk a b => wpAny_pure (hQ T h' tk a b)
  · have hk0 : k = 0 := by omega
    subst hk0
    have ha : acc = #[] := Array.eq_empty_of_size_eq_zero st.sz
    subst ha
    exact zs_next0 D st hx hy fun T h' tk a b => wpAny_pure (hQ T h' tk a b)
theorem py_end (hh : A.handled = none) (D : ZipApart z TI TO i1 i2 l l) (hk : 0 < k) (st : ZSt s.heap z TI TO i1 i2 l x t ys k acc) (hx : x.cps[k]? = none) (hy : ys[k]? = none) {Q : Option Value → Shared → Prop}
    (hQ : ∀ h', (∀ b o, b ≠ z → b ≠ TO → b ≠ i1 → b ≠ i2 → s.heap.get? b = some o → h'.get? b = some o) → Q none { s with heap := h' }) : wpAny (model P w) A (pyNext (.ref z)) Q E s := by
  have hT := st.at_z
  unfold pyNext
  refine wpAny_bind (wpAny_attempt (wpAny_callSpecial?_slot (name := Str.ofString "__next__") hT F.slot_zip_next
    (wpAny_call_entry F.slot_zip_next hT F.entry_zip_next (zs_end (A := A.in1) (show A.in1.handled = none from hh) D hk st hx hy fun h' e hk he => ?_) (F.args_zip_next_1 _))))
  obtain ⟨o, ho, hc⟩ := he
  refine wpAny_bind (wpAny_isInstance (T := "StopIteration") (b := true) ⟨o, ho, hc⟩ isSubtype_stop ?_)
  exact wpAny_pure (hQ _ hk)
/-- apart from what is written at S -/
theorem ZSt.keep {h h' : Heap} (st : ZSt h z TI TO i1 i2 l x t ys k acc) (n : ∀ b o, b ≠ S → h.get? b = some o → h'.get? b = some o) (hS : S ≠ z ∧ S ≠ TI ∧ S ≠ TO ∧ S ≠ i1 ∧ S ≠ i2 ∧ S ≠ l) (hl : ∃ o, h.get? S = some o ∧ o.cls = .type "list") : ZSt h' z TI TO i1 i2 l x t ys k acc := by
  obtain ⟨n1, n2, n3, n4, n5, n6⟩ := hS
  obtain ⟨oS, hoS, hcS⟩ := hl
  have to := st.to
  obtain ⟨a, b, hTO⟩ := to
  refine ⟨?_, n _ _ n2.symm st.ti, ⟨a, b, n _ _ n3.symm hTO⟩, (let ⟨o, e, r⟩ := st.s1; ⟨o, n _ _ n4.symm e, r⟩), st.s2.at fun o e => n _ o n5.symm e, st.tup.at fun o e => n _ o n6.symm e, st.sz, fun j v hj => ?_⟩
  · rcases st.zip with ⟨h1, h2⟩ | ⟨h1, T, f1, h2, o, h3⟩
    · exact .inl ⟨h1, n _ _ n1.symm h2⟩
    · obtain ⟨h3, hc⟩ := h3
      refine .inr ⟨h1, T, f1, n _ _ n1.symm h2, o, n _ _ (fun e => ?_) h3, hc⟩
      subst e
      rw [hoS] at h3
      cases h3
      rw [hcS] at hc
      simp at hc
  · obtain ⟨T, c, u, y, e1, e2, e3, e4, e5⟩ := st.its j v hj
    have nT : T ≠ S := fun e => by
      subst e
      have e2 : h.get? T = _ := e2
      rw [hoS] at e2
      cases e2
      simp at hcS
    exact ⟨T, c, u, y, e1, n _ _ nT e2, e3, e4, e5⟩
/-- the rest, into the list at S -/
theorem zs_loop (hh : A.handled = none) (D : ZipApart z TI TO i1 i2 l l) (hS : S ≠ z ∧ S ≠ TI ∧ S ≠ TO ∧ S ≠ i1 ∧ S ≠ i2 ∧ S ≠ l) (n : Nat) (hn0 : 0 < n) (hnx : x.cps.size = n) (hny : ys.size = n) (hn : n ≤ sizeLine) (res : Value) {R : Result → Shared → Prop} :
    ∀ (m k : Nat) (s : Shared) (acc : Array Value) (c : Nat), n - k = m → k ≤ n → ZSt s.heap z TI TO i1 i2 l x t ys k acc → s.heap.get? S = some { cls := .type "list", dict := none, data := .seq acc c, slots := #[] } →
    (∀ h' tk acc' c', (∀ b o, b ≠ S → b ≠ z → b ≠ TO → b ≠ i1 → b ≠ i2 → s.heap.get? b = some o → h'.get? b = some o) → h'.get? S = some { cls := .type "list", dict := none, data := .seq acc' c', slots := #[] } → acc'.size = n →
      (∀ (j : Nat) (v : Value), acc'[j]? = some v → ∃ (T : Addr) (c : Nat) (u : Tok) (y : Value), v = Value.ref T ∧ PairO h' T c u y ∧ x.cps[j]? = some c ∧ ys[j]? = some y ∧ TO < T) → R (.ok (.ret res)) { s with heap := h', toks := tk }) →
    codeAny (model P w) A (.builtin "list.extend.loop" ⟨[.ref S, .ref z, res], []⟩) R s := by
  intro m
  induction m with
  | zero =>
    intro k s acc c hm hk st hSl hR
    have hkn : k = n := by omega
    subst hkn
    refine codeAny_builtin F.entry_extend_loop ?_
    rw [Around.under_plainId F.plain_extend_loop _]
    show wpAny _ A.in1 (pyNext (.ref z) >>= _) _ _ s
    refine wpAny_bind (py_end (A := A.in1) (show A.in1.handled = none from hh) D hn0 st (Array.getElem?_eq_none (by omega)) (Array.getElem?_eq_none (by omega)) fun h' hk' => ?_)
    have keepT : ∀ {T : Addr} {c : Nat} {u : Tok} {y : Value}, PairO s.heap T c u y → T ≠ TO → PairO h' T c u y := fun {T c u y} q nTO => by
      have q : s.heap.get? T = _ := q
      refine hk' _ _ (fun e => ?_) (fun e => ?_) (fun e => ?_) (fun e => ?_) q
      · subst e
        rcases st.zip with ⟨_, h⟩ | ⟨_, _, _, h, _⟩ <;> (rw [h] at q; simp at q)
      · exact nTO e
      · subst e
        obtain ⟨o1, q1, q2, _⟩ := st.s1
        rw [q1] at q; cases q; simp at q2
      · subst e
        obtain ⟨o1, q1, q2, _⟩ := st.s2
        rw [q1] at q; cases q; simp at q2
    exact wpAny_pure (hR h' s.toks acc c (fun b o _ c1 c2 c3 c4 e => hk' b o c1 c2 c3 c4 e) (hk' _ _ hS.1 hS.2.2.1 hS.2.2.2.1 hS.2.2.2.2.1 hSl) st.sz fun j v hj =>
      let ⟨T, c, u, y, e1, e2, e3, e4, e5⟩ := st.its j v hj
      ⟨T, c, u, y, e1, keepT e2 (Nat.ne_of_gt e5), e3, e4, e5⟩)
  | succ m ih =>
    intro k s acc c hm hk st hSl hR
    have hlt : k < n := by omega
    refine codeAny_builtin F.entry_extend_loop ?_
    rw [Around.under_plainId F.plain_extend_loop _]
    show wpAny _ A.in1 (pyNext (.ref z) >>= _) _ _ s
    refine wpAny_bind (py_item (A := A.in1) D st (Array.getElem?_eq_getElem (by omega)) (Array.getElem?_eq_getElem (by omega)) fun T h' tk st' hk' => ?_)
    have hS' := hk' _ _ hS.1 hS.2.2.1 hS.2.2.2.1 hS.2.2.2.2.1 hSl
    show wpAny _ A.in1 (updateSeq S (·.push (.ref T)) >>= _) _ _ _
    refine wpAny_bind ?_
    refine wpAny_updateSeq hS' rfl (wpAny_pure ⟨plainId_quiet F.plain_extend_loop _, ih (k + 1) _ (acc.push (.ref T)) _ (by omega) hlt (ZSt.keep (S := S) st' (fun b o hb e => (Heap.get?_update_other _ _ (Ne.symm hb)).trans e) hS ⟨_, hS', rfl⟩) (Heap.get?_update_self _ hS' rfl)
      fun h'' tk2 acc' c' k2 e1 e2 e3 => hR h'' tk2 acc' c' (fun b o c0 c1 c2 c3 c4 e => k2 b o c0 c1 c2 c3 c4 ((Heap.get?_update_other _ _ (Ne.symm c0)).trans (hk' b o c1 c2 c3 c4 e))) e1 e2 e3⟩)
      (by rw [st.sz]; omega) (by show (acc.push (.ref T)).size ≤ sizeLine + 1; rw [Array.size_push, st.sz]; omega)
theorem zs_iter (st : ZSt s.heap z TI TO i1 i2 l x t ys k acc) {Q : Value → Shared → Prop} (h : Q (.ref z) s) : wpAny (model P w) A (pyIter (.ref z)) Q E s := by
  have hT := st.at_z
  refine wpAny_pyIter_slot hT F.slot_zip_iter (wpAny_call_entry F.slot_zip_iter hT F.entry_zip_iter ?_ (F.args_zip_iter_1 _))
  show wpAny _ _ (ret (.ref z)) _ _ s
  exact wpAny_pure ⟨_, rfl, "zip", _, hT, F.slot_zip_next.lookup, h⟩
theorem zs_init (hh : A.handled = none) (D : ZipApart z TI TO i1 i2 l l) (hS : S ≠ z ∧ S ≠ TI ∧ S ≠ TO ∧ S ≠ i1 ∧ S ≠ i2 ∧ S ≠ l) (n : Nat) (hn0 : 0 < n) (hnx : x.cps.size = n) (hny : ys.size = n) (hn : n ≤ sizeLine) {R : Result → Shared → Prop}
    (st : ZSt s.heap z TI TO i1 i2 l x t ys 0 #[]) (hSl : s.heap.get? S = some { cls := .type "list", data := .seq #[] })
    (hR : ∀ h' tk acc' c', (∀ b o, b ≠ S → b ≠ z → b ≠ TO → b ≠ i1 → b ≠ i2 → s.heap.get? b = some o → h'.get? b = some o) → h'.get? S = some { cls := .type "list", dict := none, data := .seq acc' c', slots := #[] } → acc'.size = n →
      (∀ (j : Nat) (v : Value), acc'[j]? = some v → ∃ (T : Addr) (c : Nat) (u : Tok) (y : Value), v = Value.ref T ∧ PairO h' T c u y ∧ x.cps[j]? = some c ∧ ys[j]? = some y ∧ TO < T) → R (.ok (.ret .none)) { s with heap := h', toks := tk }) :
    wpAny (model P w) A.in1 (Builtin.«list.__init__» ⟨[.ref S, .ref z], []⟩)
      (fun fin s' => match fin with | .done f => R (.ok f) s' | .again c' => c'.quiet = true ∧ codeAny (model P w) A c' R s') (fun e s' => R (.error e) s') s := by
  show wpAny _ _ (do let old ← Builtin.List.listItems (.ref S); Builtin.List.listUpdate (.ref S) (fun _ => #[]); letGo old.toList.reverse; Builtin.List.listExtendWith (.ref S) (.ref z) .none) _ _ s
  refine wpAny_bind ?_
  unfold Builtin.List.listItems
  refine wpAny_bind (wpAny_seqItems hSl rfl (wpAny_pure ?_))
  show wpAny _ _ (updateSeq S (fun _ => #[]) >>= fun _ => letGo (#[] : Array Value).toList.reverse >>= fun _ => Builtin.List.listExtendWith (.ref S) (.ref z) .none) _ _ s
  refine wpAny_bind (wpAny_updateSeq hSl rfl ?_)
  have hS₂ := Heap.get?_update_self (Obj.mapSeq (fun _ => (#[] : Array Value))) hSl rfl
  have oth : ∀ b o, b ≠ S → s.heap.get? b = some o → (s.heap.update S (Obj.mapSeq (fun _ => (#[] : Array Value)))).get? b = some o :=
    fun b o hb e => (Heap.get?_update_other _ _ (Ne.symm hb)).trans e
  have st₂ := ZSt.keep (S := S) st oth hS ⟨_, hSl, rfl⟩
  refine wpAny_bind (wpAny_letGo ?_)
  generalize s.heap.update S (Obj.mapSeq (fun _ => (#[] : Array Value))) = h2 at hS₂ oth st₂
  have hT : ({ s with heap := h2 } : Shared).TypeIs (.ref z) "zip" := ZSt.at_z (s := { s with heap := h2 }) st₂
  unfold Builtin.List.listExtendWith
  refine wpAny_bind (wpAny_typeOf hT ?_)
  have e1 : Builtin.List.listSameRef (.ref S) (.ref z) = false := by simp [Builtin.List.listSameRef, hS.1]
  have e2 : (Value.type "zip" == Value.type "list") = false := by decide
  have e3 : (Value.type "zip" == Value.type "tuple") = false := by decide
  simp only [e1, e2, e3, Bool.or_false, Bool.false_eq_true, if_false]
  refine wpAny_bind (zs_iter (s := { s with heap := h2 }) st₂ ?_)
  refine wpAny_bind (wpAny_holding ?_)
  unfold Builtin.List.listLengthHint
  refine wpAny_bind (wpAny_specialOf hT zip_nolen ?_)
  simp only [Option.isSome_none, Bool.false_eq_true, if_false]
  show wpAny _ _ (specialOf (Value.ref z) (Str.ofString "__length_hint__") >>= _) _ _ _
  refine wpAny_bind (wpAny_specialOf hT zip_nohint ?_)
  refine wpAny_pure ?_
  show wpAny _ _ (rule "list.extend.makes-room" >>= fun _ => Builtin.List.listTouch (.ref S) >>= fun _ =>
    again (.builtin "list.extend.loop" ⟨[.ref S, .ref z, .none], []⟩)) _ _ _
  refine wpAny_bind (wpAny_rule ?_)
  refine wpAny_bind ?_
  show wpAny _ _ (updateSeq S (·.push .none) >>= fun _ => updateSeq S (·.pop)) _ _ _
  refine wpAny_bind (wpAny_updateSeq hS₂ rfl ?_)
  have hS₃ := Heap.get?_update_self (Obj.mapSeq (·.push Value.none)) hS₂ rfl
  refine wpAny_updateSeq hS₃ rfl ?_
  have hS₄ := Heap.get?_update_self (Obj.mapSeq (·.pop)) hS₃ rfl
  have oth4 : ∀ b o, b ≠ S → h2.get? b = some o → ((h2.update S (Obj.mapSeq (·.push Value.none))).update S (Obj.mapSeq (·.pop))).get? b = some o :=
    fun b o hb e => (Heap.get?_update_other _ _ (Ne.symm hb)).trans ((Heap.get?_update_other _ _ (Ne.symm hb)).trans e)
  have st₄ := ZSt.keep (S := S) st₂ oth4 hS ⟨_, hS₂, rfl⟩
  refine wpAny_pure ⟨plainId_quiet F.plain_extend_loop _, zs_loop (s := { s with heap := (h2.update S (Obj.mapSeq (·.push Value.none))).update S (Obj.mapSeq (·.pop)) }) hh D hS n hn0 hnx hny hn .none n 0 _ _ (by omega) (Nat.zero_le _) st₄ hS₄ fun h' tk acc' c' k1 k2 k3 k4 => ?_⟩
  exact hR h' tk acc' c' (fun b o n0 n1 n2 n3 n4 e => k1 b o n0 n1 n2 n3 n4 (oth4 b o n0 (oth b o n0 e))) k2 k3 k4
theorem call_list_zip {Q : Value → Shared → Prop} (hh : A.handled = none) (D : ZipApart z TI TO i1 i2 l l) (hlt : z < s.heap.objs.size ∧ TI < s.heap.objs.size ∧ TO < s.heap.objs.size ∧ i1 < s.heap.objs.size ∧ i2 < s.heap.objs.size ∧ l < s.heap.objs.size) (n : Nat) (hn0 : 0 < n) (hnx : x.cps.size = n) (hny : ys.size = n) (hn : n ≤ sizeLine)
    (st : ZSt s.heap z TI TO i1 i2 l x t ys 0 #[])
    (hQ : ∀ h' tk acc' c', (∀ b o, b ≠ z → b ≠ TO → b ≠ i1 → b ≠ i2 → s.heap.get? b = some o → h'.get? b = some o) → h'.get? s.heap.objs.size = some { cls := .type "list", dict := none, data := .seq acc' c', slots := #[] } → acc'.size = n →
      (∀ (j : Nat) (v : Value), acc'[j]? = some v → ∃ (T : Addr) (c : Nat) (u : Tok) (y : Value), v = Value.ref T ∧ PairO h' T c u y ∧ x.cps[j]? = some c ∧ ys[j]? = some y ∧ TO < T) → Q (.ref s.heap.objs.size) { s with heap := h', toks := tk }) :
    wpAny (model P w) A (call (.type "list") [.ref z]) Q E s := by
  refine callType_codes (Q₁ := fun obj s₁ => obj = .ref s.heap.objs.size ∧ s₁ = { s with heap := s.heap.push { cls := .type "list", data := .seq #[] } }) F.called_list (F.typeCall_list_1 _) F.entry_list_init
    (code_list_new _ ⟨rfl, rfl⟩) fun obj s₁ h₁ => ?_
  obtain ⟨rfl, rfl⟩ := h₁
  have hS : (s.heap.push { cls := .type "list", data := .seq #[] }).get? s.heap.objs.size = some { cls := .type "list", data := .seq #[] } := Heap.get?_push_size _ rfl
  obtain ⟨l1, l2, l3, l4, l5, l6⟩ := hlt
  have st1 : ZSt (s.heap.push { cls := .type "list", data := .seq #[] }) z TI TO i1 i2 l x t ys 0 #[] := by
    have up : ∀ b o, s.heap.get? b = some o → (s.heap.push { cls := .type "list", data := .seq #[] }).get? b = some o := fun b o e => Heap.get?_push_of_some _ e
    obtain ⟨a, b, hTO⟩ := st.to
    refine ⟨.inl ⟨rfl, ?_⟩, up _ _ st.ti, ⟨a, b, up _ _ hTO⟩, (let ⟨o, e, r⟩ := st.s1; ⟨o, up _ _ e, r⟩), st.s2.at fun o e => up _ o e, st.tup.at fun o e => up _ o e, rfl, fun j v hj => ?_⟩
    · rcases st.zip with h | h
      · exact up _ _ h.2
      · exact absurd h.1 (by decide)
    · simp at hj
  refine ⟨⟨_, hS, rfl⟩, F.args_list_init_2 _ _, zs_init (A := A.in1) (s := { s with heap := s.heap.push { cls := .type "list", data := .seq #[] } }) (show A.in1.handled = none from hh) D
    ⟨Nat.ne_of_gt l1, Nat.ne_of_gt l2, Nat.ne_of_gt l3, Nat.ne_of_gt l4, Nat.ne_of_gt l5, Nat.ne_of_gt l6⟩ n hn0 hnx hny hn st1 hS fun h' tk acc' c' hk hS' hz hacc => ?_⟩
  exact ⟨rfl, hQ h' tk acc' c' (fun b o n1 n2 n3 n4 e => hk b o (Nat.ne_of_lt (Heap.lt_size e)) n1 n2 n3 n4 (Heap.get?_push_of_some _ e)) hS' hz hacc⟩
end
end Tw
/-! list(zip(text, tuple, strict=True)): the rule. -/
namespace Tw
open PySem PySem.Spec PyProof.Rows L2
def pairsD : List Nat → List D → List D
  | c :: x, d :: ds => .tup [.str [c], d] :: pairsD x ds
  | _, _ => []
theorem pairsD_map : ∀ (x : List Nat) (ds : List D), x.length = ds.length → pairsD x ds = (x.zip ds).map fun p => .tup [.str [p.1], p.2]
  | [], [], _ => rfl
  | c :: x, d :: ds, e => by simp only [pairsD, List.zip_cons_cons, List.map_cons]; rw [pairsD_map x ds (by simpa using e)]
  | [], d :: ds, e => by simp at e
  | c :: x, [], e => by simp at e
theorem reps_pairs {K : PySem.W.Frag} {H : Hp} {Ok : Addr → Nat → Value → Prop} (hOk : ∀ T c y v, Ok T c y → RelV v y → Tp K H T [V.str (tx [c]), v]) :
    ∀ (x : List Nat) (es : List D) (ws : List Value) (xs : List V) (ys : List Value), Reps K H es xs → Vals xs ys → x.length = es.length → x.length = ws.length →
      (∀ (j : Nat) (v : Value), ws[j]? = some v → ∃ T c y, v = .ref T ∧ x[j]? = some c ∧ ys[j]? = some y ∧ Ok T c y) → ∃ vs, Vals vs ws ∧ Reps K H (pairsD x es) vs
  | [], [], [], _, _, _, _, _, _, _ => ⟨[], .nil, Reps.nil⟩
  | c :: x, d :: es, w :: ws, xs, ys, r, q, l1, l2, f => by
    simp only [Reps] at r
    obtain ⟨v, rr, e, r1, r2⟩ := r
    subst e
    cases q with
    | cons q1 q2 =>
      obtain ⟨T, c', y, e1, e2, e3, e4⟩ := f 0 w rfl
      simp at e2 e3
      subst e2 e3 e1
      obtain ⟨vs, a, b⟩ := reps_pairs hOk x es ws _ _ r2 q2 (by simpa using l1) (by simpa using l2) fun j v hj => by
        obtain ⟨T, c, y, z⟩ := f (j + 1) v (by simpa using hj)
        exact ⟨T, c, y, by simpa using z⟩
      refine ⟨V.ref T :: vs, .cons rfl a, Reps.cons ?_ b⟩
      exact mk_tup (hOk T c _ v e4 q1) (Reps.cons mk_str (Reps.cons r1 Reps.nil))
  | [], _ :: _, _, _, _, _, _, l, _, _ => by simp at l
  | _ :: _, [], _, _, _, _, _, l, _, _ => by simp at l
  | [], [], _ :: _, _, _, _, _, _, l, _ => by simp at l
  | _ :: _, _ :: _, [], _, _, _, _, _, l, _ => by simp at l
section
variable {M : Model} {A : Around} {E : Value → Shared → Prop} {s : Shared} {env : Env}
theorem callWith_typeKw {pos : Pos} {T : String} {e : Expr} {rest : List Expr} {kws : List Keyword} {Q : Value → Shared → Prop}
    (h : wpAny M A (spliced (backTo pos (starEach (e :: rest) env))) (fun vs s₁ => wpAny M A (evalAll ((backToKw pos (keywordEach kws env)).map (·.2)))
      (fun kvs s₂ => wpAny M A (call (.type T) vs (((backToKw pos (keywordEach kws env)).filterMap (·.1)).zip kvs)) Q E s₂) E s₁) E s)
    (he : backTo pos (starEach (e :: rest) env) = (false, eval e env) :: backTo pos (starEach rest env))
    (hplain : (backTo pos (starEach (e :: rest) env)).any (·.1) = false)
    (hall : (backToKw pos (keywordEach kws env)).all (·.1.isSome) = true)
    (hkw : (backToKw pos (keywordEach kws env)).any (·.1.isNone) = false) :
    wpAny M A (callWith pos (.type T) [] (backTo pos (starEach (e :: rest) env)) (backToKw pos (keywordEach kws env))) Q E s := by
  have h2 : wpAny M A (evalArgs (.type T) true (backTo pos (starEach (e :: rest) env)) (backToKw pos (keywordEach kws env))) (fun a s₁ => wpAny M A (call (.type T) ([] ++ a.pos) a.kw) Q E s₁) E s := by
    rw [he] at h ⊢
    exact evalArgs_kwB hall h
  unfold callWith
  refine wpAny_bind (wpAny_holding (wpAny_mono h2 (fun a s₁ h₁ => wpAny_bind (wpAny_standAt ?_)) fun _ _ x => x))
  simp only [hplain, hkw, Bool.or_false]
  refine wpAny_bind (wpAny_pure ?_)
  exact wpAny_bind (wpAny_mono h₁ (fun r s₂ hr => wpAny_bind (wpAny_holding (wpAny_point (wpAny_pure hr)))) fun _ _ x => x)
end
/-- the heap with all that is new and a tuple told, the list at S -/
noncomputable def zipHp (H : Hp) (n : Nat) (h : Heap) (S : Addr) (vs : List V) : Hp := fun b =>
  open Classical in
  if b = S then some (.lst vs) else if b < n then H b else
    if e : ∃ xs : List V, xs.length ≤ sizeLine ∧ ∃ its : List Value, Vals xs its ∧ IsTup h b its.toArray then some (.tup (Classical.choose e)) else none
section
variable {X : Cx} {T : Tb} {W : WX} {pins : List (Addr × Obj)} {σ : L2.St} {H : Hp} {s : Shared} {h' : Heap} {S : Addr} {vs : List V}
theorem zipHp_S : zipHp H n h' S vs S = some (.lst vs) := by unfold zipHp; rw [if_pos rfl]
theorem zipHp_old {n b : Nat} (hS : n ≤ S) (hb : b < n) : zipHp H n h' S vs b = H b := by unfold zipHp; rw [if_neg (by intro e; subst e; omega), if_pos hb]
theorem zipHp_tup {n b : Nat} (hS : b ≠ S) (hb : n ≤ b) {xs : List V} {its : List Value} (hl : xs.length ≤ sizeLine) (r : Vals xs its) (t : IsTup h' b its.toArray) : zipHp H n h' S vs b = some (.tup xs) := by
  unfold zipHp
  rw [if_neg hS, if_neg (Nat.not_lt.mpr hb)]
  have e : ∃ xs : List V, xs.length ≤ sizeLine ∧ ∃ its : List Value, Vals xs its ∧ IsTup h' b its.toArray := ⟨xs, hl, its, r, t⟩
  rw [dif_pos e]
  obtain ⟨_, its2, r2, t2⟩ := Classical.choose_spec e
  obtain ⟨o, e1, e2, n1, e3⟩ := t
  obtain ⟨o2, f1, f2, n2, f3⟩ := t2
  rw [e1] at f1
  cases f1
  rw [e3] at f3
  have : its = its2 := by simpa using (Data.seq.inj f3).1
  subst this
  rw [Vals.inj r2 r]
theorem zipHp_inv (I : Inv X pins σ H s) (k : ∀ b u, s.heap.get? b = some u → h'.get? b = some u) (hS : s.heap.objs.size ≤ S) {t' : Nat} (hl : vs.length ≤ sizeLine) {its : List Value} {n : Nat} (r : Vals vs its) (hg : h'.get? S = some { cls := .type "list", data := .seq its.toArray n }) :
    Inv X pins σ (zipHp H s.heap.objs.size h' S vs) { s with heap := h', toks := t' } := by
  have old : ∀ b o, s.heap.get? b = some o → zipHp H s.heap.objs.size h' S vs b = H b := fun b o e => zipHp_old hS (Heap.lt_size e)
  have oldH : ∀ b o, H b = some o → zipHp H s.heap.objs.size h' S vs b = H b := fun b o e => zipHp_old hS (I.hok.lt e)
  refine I.un ⟨fun b u q _ _ _ => k b u q, fun b u q _ _ _ => ⟨u.slots, k b u q⟩, fun b u q n _ => by rw [old b u q]; exact n, fun b u q _ => ⟨u, k b u q⟩, fun b xs q => by rw [oldH b _ q]; exact q,
    fun b u xs q => by rw [oldH b _ q]; exact q, fun b ps q => ⟨#[], by rw [oldH b _ q, q]; simp⟩⟩ fun b u e => ?_
  by_cases hb : b = S
  · subst hb
    rw [zipHp_S] at e
    cases e
    exact ⟨hl, its, n, r, hg⟩
  · by_cases h2 : b < s.heap.objs.size
    · rw [zipHp_old hS h2] at e
      exact (I.hok b u e).stay (fun c v _ q => k c v q) (fun c q => by rw [oldH c _ q]; exact q) fun c xs q => by rw [oldH c _ q]; exact q
    · unfold zipHp at e
      rw [if_neg hb, if_neg h2] at e
      split at e
      · rename_i ex
        cases e
        exact Classical.choose_spec ex
      · cases e
end
def dListZip (ms : MA) : ME := fun δ h Q E => ms δ h (fun ds h1 => match ds with
  | [.str x, .tup es] => x.length = es.length ∧ 0 < x.length ∧ x.length ≤ 60 ∧ x.all (fun c => decide (c < 128)) = true ∧ ∀ p, h1 p = none → Q (.ref p) (put h1 p (.lst (pairsD x es)))
  | _ => False) E
section
variable {X : Cx} {T : Tb} {W : WX} {a b : Expr} {ms : MA} {p p2 pos q tq kp : Pos} {tp : Nat}
theorem de_listZip (hc : X.calm = true) (hg : Gl X "list") (hm : X.mg "list" = none) (hv : bootBuiltins "list" = some (.type "list")) (hg2 : Gl X "zip") (hm2 : X.mg "zip" = none) (hv2 : bootBuiltins "zip" = some (.type "zip")) (ha : DA X T W [a, b] ms)
    (h1 : starEach [.Call (.Name "zip" p2) [a, b] [⟨some "strict", .Constant (.bool true) tp tq, kp⟩] q] X.env = [(false, eval (.Call (.Name "zip" p2) [a, b] [⟨some "strict", .Constant (.bool true) tp tq, kp⟩] q) X.env)] := by rfl)
    (h2 : starEach [a, b] X.env = [(false, eval a X.env), (false, eval b X.env)] := by rfl) (h3 : starEach [b] X.env = [(false, eval b X.env)] := by rfl) :
    DE X T W (.Call (.Name "list" p) [.Call (.Name "zip" p2) [a, b] [⟨some "strict", .Constant (.bool true) tp tq, kp⟩] q] [] pos) (dListZip ms) := by
  refine ⟨fun pins s σ H Q I h => ?_⟩
  obtain ⟨δ, h0, Q', E', rs, rh, q0, k, kx⟩ := h
  refine wpAny_Call_Name_kw (ld_blt I hg hm hv ?_ (by decide) (by decide))
  refine PyProof.Rows.callWith_type1 ?_ h1 rfl
  rw [h1]
  show wpAny _ _ (spliced [(false, eval (.Call (.Name "zip" p2) [a, b] [⟨some "strict", .Constant (.bool true) tp tq, kp⟩] q) X.env)]) _ _ s
  refine Calls.spliced_cons ?_
  refine wpAny_Call_Name_kw (ld_blt I hg2 hm2 hv2 ?_ (by decide) (by decide))
  refine callWith_typeKw (thn (ha.run q pins s σ H (fun vs H' => ∃ ds h', Ext h0 h' H H' ∧ Reps X.K H' ds vs ∧ RelH (cn X T) H' h' ∧ (match ds with
      | [.str x, .tup es] => x.length = es.length ∧ 0 < x.length ∧ x.length ≤ 60 ∧ x.all (fun c => decide (c < 128)) = true ∧ ∀ p, h' p = none → Q' (.ref p) (put h' p (.lst (pairsD x es)))
      | _ => False)) I ⟨δ, h0, _, E', rs, rh, q0, fun vs ds H' h' x r rh' z => ⟨ds, h', x, r, rh', z⟩, kx⟩) fun us s1 ⟨vs, H1, I1, r1, ds, h1', x1, rp, rh1, z⟩ => ?_) (by rw [h2, h3]; rfl) (by rw [h2]; rfl) rfl rfl
  refine kws_cons ?_
  refine Constant_bool ?_
  refine kws_nil ?_
  show wpAny _ _ (call (.type "zip") us [(Str.ofString "strict", .bool true)]) _ _ _
  match ds, z with
  | [.str x, .tup es], z =>
    obtain ⟨hl, h0x, h60, hasc, z⟩ := z
    simp only [Reps] at rp
    obtain ⟨vx, r1', e1, rx, v2, r2', e2, ry, e3⟩ := rp
    subst e3 e2 e1
    have ex := rel_str rx
    subst ex
    obtain ⟨l, xs, e, t, re⟩ := rel_tup ry
    subst e
    cases r1 with
    | cons ra rb =>
      cases rb with
      | cons rb rc =>
        cases rc
        obtain ⟨tk, ea⟩ := ra
        cases rb
        subst ea
        obtain ⟨its, rv, pt, hz⟩ := I1.tuple t.sqt
        have pl : s1.heap.IsTuple l its.toArray := pt
        have hasc' : (tx x).cps.all (fun c => decide (c < 128)) = true := by
          show (x.toArray).all _ = true
          rw [List.all_toArray]
          exact hasc
        have hlx : (tx x).cps.size = x.length := by show x.toArray.size = _; simp
        have hly : its.toArray.size = x.length := by
          have := rv.length
          have := re.length
          simp
          omega
        have hxs : xs.length = es.length := re.length
        refine call_zipS hasc' pl fun h2 g1 g2 g3 g4 g5 g6 k2 => ?_
        have lt : l < s1.heap.objs.size := let ⟨o, e, _⟩ := pl; Heap.lt_size e
        refine Calls.spliced_nil ?_
        have up2 : ∀ b o, s1.heap.get? b = some o → h2.get? b = some o := fun b o e => k2 b o e
        refine call_list_zip (s := { s1 with heap := h2 }) (z := s1.heap.objs.size + 4) (TI := s1.heap.objs.size + 2) (TO := s1.heap.objs.size + 3) (i1 := s1.heap.objs.size) (i2 := s1.heap.objs.size + 1) (l := l) (x := tx x) (t := tk) (ys := its.toArray) (I1.ok.hd hc)
          (by have lt' : @LT.lt Nat _ l s1.heap.objs.size := lt; constructor <;> (intro z; have z' : @Eq Nat _ _ := z; omega)) ?_ x.length h0x hlx hly (by rw [sizeLine_eq]; omega) ⟨.inl ⟨rfl, g1⟩, g2, ⟨_, _, g3⟩, g4, g5, pl.at fun o e => up2 _ _ e, rfl, fun j v hj => by simp at hj⟩ ?_
        · have lt' : @LT.lt Nat _ l s1.heap.objs.size := lt
          refine ⟨?_, ?_, ?_, ?_, ?_, ?_⟩ <;> (show @LT.lt Nat _ _ h2.objs.size; rw [g6]; omega)
        intro h' tk' acc c k3 hS hacc hit
        have hS : h'.get? (s1.heap.objs.size + 5) = some { cls := .type "list", dict := none, data := .seq acc c, slots := #[] } := by
          have e : (s1.heap.objs.size + 5) = h2.objs.size := g6.symm
          rw [e]
          exact hS
        have kall : ∀ b o, s1.heap.get? b = some o → h'.get? b = some o := fun b o e => by
          have lb : @LT.lt Nat _ b s1.heap.objs.size := Heap.lt_size e
          exact k3 b o (Nat.ne_of_lt (Nat.lt_of_lt_of_le lb (Nat.le_add_right _ _))) (Nat.ne_of_lt (Nat.lt_of_lt_of_le lb (Nat.le_add_right _ _))) (Nat.ne_of_lt lb) (Nat.ne_of_lt (Nat.lt_of_lt_of_le lb (Nat.le_add_right _ _))) (up2 b o e)
        have kp0 : Keeps H1 (zipHp H1 s1.heap.objs.size h' (s1.heap.objs.size + 5) []) := ⟨fun b xs e => by rw [zipHp_old (by omega) (I1.hok.lt e)]; exact e, fun b o u e => by rw [zipHp_old (by omega) (I1.hok.lt e)]; exact e⟩
        obtain ⟨vs2, rv2, rp2⟩ := reps_pairs (K := X.K) (H := zipHp H1 s1.heap.objs.size h' (s1.heap.objs.size + 5) []) (Ok := fun T c y => s1.heap.objs.size ≤ T ∧ ∃ u, PairO h' T c u y) (fun T c y v ⟨hT, u, hP⟩ r => by
            have ne : T ≠ s1.heap.objs.size + 5 := fun e => by
              have hP : h'.get? T = _ := hP
              rw [e, hS] at hP
              simp at hP
            exact .inl (zipHp_tup ne hT (its := [.str ⟨#[c]⟩ u, y]) (by show 2 ≤ sizeLine; decide) (.cons ⟨u, rfl⟩ (.cons r .nil)) ⟨_, hP, rfl, _, rfl⟩))
          x es acc.toList xs its (Reps.keep kp0 _ _ re) rv hl (by simp [hacc]) (fun j v hj => by
            obtain ⟨T, c, u, y, e1, e2, e3, e4, e5⟩ := hit j v (by simpa using hj)
            exact ⟨T, c, y, e1, by simpa using e3, by simpa using e4, Nat.le_trans (Nat.le_add_right _ 3) (Nat.le_of_lt e5), u, e2⟩)
        · have I2 := zipHp_inv (vs := vs2) (t' := tk') I1 kall (show s1.heap.objs.size ≤ s1.heap.objs.size + 5 by omega) (by rw [rv2.length]; simp [hacc]; rw [sizeLine_eq]; omega) rv2 hS
          have olds : ∀ b o, H1 b = some o → zipHp H1 s1.heap.objs.size h' (s1.heap.objs.size + 5) vs2 b = some o := fun b o e => by rw [zipHp_old (by omega) (I1.hok.lt e)]; exact e
          have nS : H1 (s1.heap.objs.size + 5) = none := I1.hok.fresh (by omega)
          have kp : Keeps (zipHp H1 s1.heap.objs.size h' (s1.heap.objs.size + 5) []) (zipHp H1 s1.heap.objs.size h' (s1.heap.objs.size + 5) vs2) := by
            have off : ∀ b, b ≠ s1.heap.objs.size + 5 → zipHp H1 s1.heap.objs.size h' (s1.heap.objs.size + 5) [] b = zipHp H1 s1.heap.objs.size h' (s1.heap.objs.size + 5) vs2 b := fun b n => by unfold zipHp; rw [if_neg n, if_neg n]
            refine ⟨fun b xs e => ?_, fun b o u e => ?_⟩ <;>
            · have n : b ≠ s1.heap.objs.size + 5 := fun z => by rw [z, zipHp_S] at e; cases e
              rw [← off b n]
              exact e
          have keeps : Keeps H1 (zipHp H1 s1.heap.objs.size h' (s1.heap.objs.size + 5) vs2) := ⟨fun b xs e => olds _ _ e, fun b o u e => olds _ _ e⟩
          have ext : Ext h1' (put h1' (s1.heap.objs.size + 5) (.lst (pairsD x es))) H1 (zipHp H1 s1.heap.objs.size h' (s1.heap.objs.size + 5) vs2) := fun b o n e _ => ⟨olds b o e, by rw [put_ne (ne_of_none e nS)]; exact n⟩
          refine ⟨V.ref (s1.heap.objs.size + 5), _, I2, ?_, k _ (.ref (s1.heap.objs.size + 5)) _ _ (x1.trans ext) mk_ref ⟨fun b o e => ?_, rh1.tabs.ext fun b o e => olds b o e⟩ (z _ (rh1.fresh nS))⟩
          · show Value.ref h2.objs.size = Value.ref (s1.heap.objs.size + 5)
            rw [g6]
          · by_cases hb : b = s1.heap.objs.size + 5
            · subst hb
              rw [put_same] at e
              cases e
              exact ⟨vs2, zipHp_S, Reps.keep kp _ _ rp2⟩
            · rw [put_ne hb] at e
              have ob := rh1.at_ b o e
              obtain ⟨u, q1, _⟩ := ob.some
              exact ob.keep keeps (by rw [olds b u q1, q1])
end
end Tw
/-! More rules: index of a sign, list(range), dicts made and joined. -/
namespace Tw
open PySem PySem.Spec PyProof.Rows L2
open PySem.StrLaws in
theorem occ_full (s sub : Str) (hi : Nat) : ∀ (l : List Nat) (st : Array Nat × Nat), st.fst.size = 1 → (forIn l st (occBody s sub hi 1)).run.fst = st.fst
  | [], st, h => rfl
  | a :: l, st, h => by
    rw [List.forIn_cons]
    unfold occBody
    rw [if_neg (by omega)]
    exact occ_full s sub hi l _ h
open PySem.StrLaws in
theorem occ_at (s sub : Str) (hi i : Nat) : ∀ (n a free : Nat), free ≤ a → a ≤ i → i < a + n → (∀ j, a ≤ j → j < i → ¬ (j + sub.length ≤ hi ∧ Builtin.Str.subAt s sub j = true)) → (i + sub.length ≤ hi ∧ Builtin.Str.subAt s sub i = true) →
    (forIn (List.range' a n) ((#[] : Array Nat), free) (occBody s sub hi 1)).run.fst = #[i]
  | 0, a, free, _, h1, h2, _, _ => by omega
  | n + 1, a, free, hf, h1, h2, hn, hp => by
    rw [List.range'_succ, List.forIn_cons]
    unfold occBody
    by_cases e : a = i
    · subst e
      rw [if_pos ⟨⟨⟨by simp, hf⟩, hp.1⟩, hp.2⟩]
      exact occ_full s sub hi _ _ (by simp)
    · rw [if_neg (fun z => hn a (Nat.le_refl _) (by omega) ⟨z.1.2, z.2⟩)]
      exact occ_at s sub hi i n (a + 1) free (by omega) (by omega) (by omega) (fun j h3 h4 => hn j (by omega) h4) hp
theorem occ_sign (x : List Nat) (c i : Nat) (hi : x[i]? = some c) (hn : ∀ j, j < i → x[j]? ≠ some c) : Builtin.Str.occurrences (tx x) (tx [c]) 0 (tx x).length 1 = [i] := by
  have sa : ∀ j, (j + (tx [c]).length ≤ (tx x).length ∧ Builtin.Str.subAt (tx x) (tx [c]) j = true) ↔ x[j]? = some c := fun j => by
    have := PySem.StrLaws.subAt_one (tx x) c j
    simpa using this
  have hl := (List.getElem?_eq_some_iff.mp hi).1
  rw [PySem.StrLaws.occ_eq, occ_at _ _ _ i _ _ _ (Nat.zero_le _) (Nat.zero_le _) (by rw [tx_len]; omega) (fun j _ h3 h4 => hn j h3 ((sa j).mp h4)) ((sa i).mpr hi)]
/-- x.index(c) of a sign that is there -/
def mIndex : RM := fun d ds h Q => match d, ds with
  | .str x, [.str [c]] => c ∈ x ∧ Q (.int (x.idxOf c : Nat)) h
  | _, _ => False
theorem mIndex_str {x : List Nat} {c : Nat} {h : DHp} {Q : DK} : mIndex (.str x) [.str [c]] h Q = (c ∈ x ∧ Q (.int (x.idxOf c : Nat)) h) := rfl
section
variable {X : Cx} {T : Tb} {W : WX}
theorem md_index : MD X T "str.index" mIndex := by
  intro pins s σ H x vs v us Q I rx rv hh
  obtain ⟨d, ds, h, Q', rd, r, rh, q, k⟩ := hh
  match d, ds, q, rd, r with
  | .str a, [.str [c]], ⟨hc, q⟩, rd, r =>
    obtain ⟨w, ew, r1⟩ := reps1 r
    subst ew
    have hlt := List.idxOf_lt_length_iff.mpr hc
    refine mt_sindex pins s σ H x _ v us Q I rx rv ⟨tx a, tx [c], a.idxOf c, [], rel_str rd, by rw [rel_str r1], occ_sign a c _ ?_ ?_, k.here mk_int rh q⟩
    · rw [List.getElem?_eq_getElem hlt, List.getElem_idxOf]
    · intro j hj e
      have := List.not_of_lt_findIdx (p := (· == c)) (xs := a) (i := j) hj
      rw [List.getElem?_eq_getElem (by omega)] at e
      simp at e
      simp [e] at this
/-- x.upper() -/
def mUpper : RM := fun d ds h Q => match d, ds with
  | .str x, [] => x.length ≤ 1000 ∧ Q (.str (Txt.upper (tx x)).cps.toList) h
  | _, _ => False
theorem mUpper_str {x : List Nat} {h : DHp} {Q : DK} : mUpper (.str x) [] h Q = (x.length ≤ 1000 ∧ Q (.str (Txt.upper (tx x)).cps.toList) h) := rfl
theorem md_upper : MD X T "str.upper" mUpper := by
  intro pins s σ H x vs v us Q I rx rv hh
  obtain ⟨d, ds, h, Q', rd, r, rh, q, k⟩ := hh
  match d, ds, q, rd, r with
  | .str a, [], ⟨hl, q⟩, rd, r =>
    simp only [Reps] at r
    subst r
    exact mt_upper pins s σ H x _ v us Q I rx rv ⟨tx a, rel_str rd, rfl, by rw [tx_len]; omega, k.here (by have := mk_str (K := X.K) (H := H) (b := (Txt.upper (tx a)).cps.toList); rw [tx_cps] at this; exact this) rh q⟩
theorem bt_set : bootBuiltins "set" = some (.type "set") := by decide +kernel
theorem bt_zip : bootBuiltins "zip" = some (.type "zip") := by decide +kernel
theorem bt_dict : bootBuiltins "dict" = some (.type "dict") := by decide +kernel
/-- list(range(n)) -/
def dListRng (ms : MA) : ME := fun δ h Q E => ms δ h (fun ds h1 => match ds with
  | [.int n] => 0 ≤ n ∧ n ≤ 16777216 ∧ ∀ p, h1 p = none → Q (.ref p) (put h1 p (.lst (rngD 0 n.toNat)))
  | _ => False) E
theorem reps_rng {K : PySem.W.Frag} {H : Hp} (lo : Int) : ∀ (l : List Nat), Reps K H (l.map fun (i : Nat) => D.int (lo + (i : Int))) (l.map fun (i : Nat) => V.int (lo + (i : Nat)))
  | [] => Reps.nil
  | i :: l => by rw [List.map_cons, List.map_cons]; exact Reps.cons mk_int (reps_rng lo l)
theorem de_listRng {a : Expr} {ms : MA} {p p2 pos q : Pos} (hc : X.calm = true) (hg : Gl X "list") (hm : X.mg "list" = none) (hg2 : Gl X "range") (hm2 : X.mg "range" = none) (ha : DA X T W [a] ms)
    (h1 : starEach [.Call (.Name "range" p2) [a] [] q] X.env = [(false, eval (.Call (.Name "range" p2) [a] [] q) X.env)] := by rfl) (h2 : starEach [a] X.env = [(false, eval a X.env)] := by rfl) :
    DE X T W (.Call (.Name "list" p) [.Call (.Name "range" p2) [a] [] q] [] pos) (dListRng ms) := by
  have pa : PRg X (.Call (.Name "range" p2) [a] [] q) (fun σ H Q => upA (cn X T) W ms σ H fun vs H1 => ∃ n, vs = [V.int n] ∧ Q 0 n H1) := by
    intro pins s σ H Q I h
    refine wpAny_Call_Name_kw (ld_blt I hg2 hm2 boot_range (PyProof.Rows.callWith_type1 (thn (ha.run q pins s σ H _ I h) fun us s1 ⟨vs, H1, I1, r1, n, e, q1⟩ => ?_) h2 rfl))
    subst e
    obtain ⟨u, rfl, t, rfl⟩ := r1.one
    exact call_range_1 ⟨_, 0, n, _, _, _, H1, rfl, IsRange.new _ _ _ _ _ _ _, I1.kept fun b u e => Heap.get?_push_of_some _ e, q1⟩
  refine pe_imp (pe_listRg hc hg hm pa h1) ?_
  rintro σ H Q ⟨δ, h, Q', E', rs, rh, q, k, kx⟩
  refine ⟨δ, h, _, E', rs, rh, q, fun vs ds H1 h1 x1 r1 rh1 q1 => ?_, kx⟩
  match ds, q1, r1 with
  | [.int n], ⟨h0, hz, q1⟩, r1 =>
    obtain ⟨v, e, r2⟩ := reps1 r1
    have ev := rel_int r2
    subst e ev
    refine ⟨n, rfl, RgOk.of_le (by omega) (by omega) (by omega) (by omega), fun p0 n0 => ?_⟩
    have er : rgV 0 n = (List.range n.toNat).map fun (i : Nat) => V.int (0 + (i : Nat)) := by unfold rgV; rw [Int.sub_zero]
    obtain ⟨rh2, x2⟩ := RelH.newList (ds := rngD 0 n.toNat) (vs := rgV 0 n) rh1 n0 (by rw [er]; exact reps_rng 0 _)
    exact k _ _ _ _ (x1.trans x2) mk_ref rh2 (q1 p0 (rh1.fresh n0))
/-- {} -/
def dDnew : ME := fun _ h Q _ => ∀ p, h p = none → Q (.ref p) (put h p (.dct []))
theorem de_dnew {pos : Pos} : DE X T W (.Dict [] [] pos) dDnew := by
  refine pe_imp pe_dnewK ?_
  rintro σ H Q ⟨δ, h, Q', E', rs, rh, q, k, kx⟩
  intro p n
  obtain ⟨rh2, x2⟩ := rh.laid (o := .dct []) (u := .dK []) n ⟨[], upd_same, rfl⟩
  exact k _ _ _ _ x2 mk_ref rh2 (q p (rh.fresh n))
/-- a.update(b), dicts of ints and texts -/
theorem KReps.fold {c : Cn} {H : Hp} : ∀ {ms : List (KeyD × D)} {ys : List (Key × V)} {ks : List (KeyD × D)} {xs : List (Key × V)}, KReps c H ms ys → KReps c H ks xs → KReps c H (putCs ks ms) (mergeK xs ys)
  | [], _, _, _, r, q => by rw [show _ = _ from r]; exact q
  | p :: ms, _, _, _, ⟨x, y, e, r1, r2⟩, q => by
    subst e
    have z := KReps.fold r2 (KReps.put (k := p.1) q r1)
    exact z
def mUpdate : RM := fun d ds h Q => match d, ds with
  | .ref a, [.ref b] => a ≠ b ∧ ∃ ks ms, h a = some (.dct ks) ∧ h b = some (.dct ms) ∧ ks.length + ms.length ≤ sizeLine ∧ Q .non (put h a (.dct (putCs ks ms)))
  | _, _ => False
theorem md_update : MD X T "dict.update" mUpdate := by
  intro pins s σ H x vs v us Q I rx rv hh
  obtain ⟨d, ds, h, Q', rd, r, rh, q, k⟩ := hh
  match d, ds, q, rd, r with
  | .ref a, [.ref b], ⟨hab, ks, ms, ea, eb, hz, q⟩, rd, r =>
    obtain ⟨w, ew, r1⟩ := reps1 r
    subst ew
    have e1 := rel_ref rd
    have e2 := rel_ref r1
    subst e1 e2
    cases rx
    obtain ⟨u, rfl, ru⟩ := rv.one
    cases ru
    obtain ⟨xs, a1, a2⟩ := rh.at_ _ _ ea
    obtain ⟨ys, b1, b2⟩ := rh.at_ _ _ eb
    obtain ⟨z1, s1, vs1, k1, d1⟩ := dk_of I.hok a1
    obtain ⟨z2, s2, vs2, k2, d2⟩ := dk_of I.hok b1
    have l1 := k1.length
    have l2 := k2.length
    have l3 := a2.length
    have l4 := b2.length
    refine call_meetsIn PySem.F.slot_dict_update d1.typeIs PySem.F.entry_dict_update (PySem.F.args_dict_update_2 _ _) (meets_dict_update (mixKind X.prog X.w) a b hab s2) ⟨vs1, vs2, d1, d2, by omega, fun h' hm _ hs => ?_⟩
    have he : ∃ q, h'.get? a = some q := let ⟨q, _, _, hq, _⟩ := hm; ⟨q, hq⟩
    have hl : (mergeK xs ys).length ≤ sizeLine := by have := length_mergeK ys xs; omega
    obtain ⟨rh2, x2⟩ := rh.wrote (o' := .dct (putCs ks ms)) (u := .dK (mergeK xs ys)) ea a1 noCode_dK fun kp => ⟨_, upd_same, KReps.keep kp _ _ (KReps.fold b2 a2)⟩
    exact ⟨.non, _, d_write (t' := s.toks) I (by rw [a1]; exact True.intro) hs he (dk_new hl s1 (KV.merge k2 k1) hm), rfl, k _ _ _ _ x2 mk_non rh2 q⟩
/-- dict(pairs) -/
def pairOf : D → Option (KeyD × D)
  | .tup [k, v] => (kyD k).map fun j => (j, v)
  | _ => none
theorem reps_pairsK {c : Cn} {H : Hp} : ∀ (ps : List D) (kvs : List (KeyD × D)) (xs : List V), ps.mapM pairOf = some kvs → Reps c.K H ps xs → ∃ (as : List Addr) (ys : List (Key × V)), xs = as.map V.ref ∧ Paired (fun p kv => SqT c.K H p [kV kv.1, kv.2]) as ys ∧ KReps c H kvs ys
  | [], kvs, xs, e, r => by
    simp only [List.mapM_nil] at e
    cases e
    simp only [Reps] at r
    subst r
    exact ⟨[], [], rfl, .nil, rfl⟩
  | p :: ps, kvs, xs, e, r => by
    rw [List.mapM_cons] at e
    simp only [Reps] at r
    obtain ⟨x, ys, ex, r1, r2⟩ := r
    subst ex
    cases q : pairOf p with
    | none => rw [q] at e; cases e
    | some kv =>
      rw [q] at e
      cases q2 : ps.mapM pairOf with
      | none => rw [q2] at e; cases e
      | some r =>
        rw [q2] at e
        cases e
        obtain ⟨as, ys', e1, e2, e3⟩ := reps_pairsK ps r ys q2 r2
        match p, q, r1 with
        | .tup [k, v], q, r1 =>
          simp only [pairOf, Option.map_eq_some_iff] at q
          obtain ⟨j, ej, e⟩ := q
          subst e
          obtain ⟨a, zs, ea, t, rr⟩ := rel_tup r1
          obtain ⟨w1, w2, e, rk, rv⟩ := reps2 rr
          subst e
          have ek := kyD_V ej rk
          subst ek
          exact ⟨a :: as, (ky j, w2) :: ys', by rw [ea, e1]; rfl, .cons t.sqt e2, w2, ys', rfl, rv, e3⟩
def bDict : RC := fun ds h Q => match ds with
  | [.ref a] => ∃ ps kvs, h a = some (.lst ps) ∧ ps.mapM pairOf = some kvs ∧ ∀ p, h p = none → Q (.ref p) (put h p (.dct (putCs [] kvs)))
  | _ => False
theorem cd_dict (hc : X.calm = true) : CD X T (.type "dict") bDict := by
  intro pins s σ H vs us Q I rv hh
  obtain ⟨ds, h, Q', r, rh, q, k⟩ := hh
  match ds, q, r with
  | [.ref a], ⟨ps, kvs, ea, em, q⟩, r =>
    obtain ⟨v, e, r1⟩ := reps1 r
    have ev := rel_ref r1
    subst e ev
    obtain ⟨xs, e1, e2⟩ := rh.at_ _ _ ea
    obtain ⟨as, ys, f1, f2, f3⟩ := reps_pairsK ps kvs xs em e2
    subst f1
    refine call_dictP hc pins s σ H _ us Q I rv ⟨a, as, ys, rfl, .inl (.inl e1), f2, fun p n => ?_⟩
    obtain ⟨rh2, x2⟩ := rh.laid (o := .dct (putCs [] kvs)) (u := .dK (mergeK [] ys)) n ⟨_, upd_same, KReps.keep (keeps_new n) _ _ (KReps.fold f3 (show KReps (cn X T) H [] [] from rfl))⟩
    exact k _ _ _ _ x2 mk_ref rh2 (q p (rh.fresh n))
theorem hu_1 {n : Nat} (h : n + 65 < cLine) : n + 1 < cLine := by omega
/-- d[k] = v in a dict of ints and texts -/
def dSetK (o i v : D) (h : DHp) (Q : DHp → Prop) : Prop := match o with
  | .ref a => ∃ kvs k, h a = some (.dct kvs) ∧ kyD i = some k ∧ kvs.length < sizeLine ∧ Q (put h a (.dct (putC kvs k v)))
  | _ => False
theorem set_k (hu : X.A.units + 1 < cLine) : SetD X T dSetK := by
  intro pins s σ H o i v ov iv u Q I ro ri rv hh
  obtain ⟨dO, dI, dv, h, Q', r1, r2, r3, rh, q, k⟩ := hh
  match dO, q, r1 with
  | .ref a, ⟨kvs, key, e, ek, hz, q⟩, r1 =>
    obtain ⟨xs, e1, e2⟩ := rh.at_ _ _ e
    have er := kyD_V ek r2
    obtain ⟨rh2, x2⟩ := rh.wrote (o' := .dct (putC kvs key dv)) (u := .dK (putK xs (ky key) v)) e e1 noCode_dK fun kp => ⟨_, upd_same, KReps.keep kp _ _ (KReps.put e2 r3)⟩
    exact set_dict hu pins s σ H o i v ov iv u Q I ro ri rv ⟨a, _, rel_ref r1, .inl ⟨xs, ky key, e1, er, by rw [e2.length]; omega, rfl⟩, k _ _ x2 rh2 q⟩
end
end Tw
/-! Texts in their order, each once. -/
namespace Tw
open PySem PySem.Spec PyProof.Rows L2
/-- (len(x), x), as data -/
def keyW (x : List Nat) : PyData := .tuple [.int x.length, .str (tx x)]
def leW (x y : List Nat) : Bool := PySem.W.dataLe false keyW x y
theorem toksW (x : List Nat) : PySem.W.keyToks (keyW x) = [.inl 1, .inl (x.length : Int), .inl 1, .inr x, .inl 0] := by
  simp [keyW, PySem.W.keyToks, PySem.W.keyToksAll, tx]
theorem leW_trans (x y z : List Nat) (h1 : leW x y = true) (h2 : leW y z = true) : leW x z = true := (PySem.W.sortLe_total (PyProof.Rows.listOrd PyProof.Rows.itemOrd) false fun b => PySem.W.keyToks (keyW b)).trans x y z h1 h2
theorem leW_total (x y : List Nat) : (leW x y || leW y x) = true := by
  have := (PySem.W.sortLe_total (PyProof.Rows.listOrd PyProof.Rows.itemOrd) false fun b => PySem.W.keyToks (keyW b)).total x y
  rw [Bool.or_eq_true]
  exact this
theorem leW_anti (x y : List Nat) (h1 : leW x y = true) (h2 : leW y x = true) : x = y := by
  have a1 : PyProof.Rows.lexLt PyProof.Rows.itemOrd (PySem.W.keyToks (keyW y)) (PySem.W.keyToks (keyW x)) = false := by
    have : (!PyProof.Rows.lexLt PyProof.Rows.itemOrd (PySem.W.keyToks (keyW y)) (PySem.W.keyToks (keyW x))) = true := h1
    simpa using this
  have a2 : PyProof.Rows.lexLt PyProof.Rows.itemOrd (PySem.W.keyToks (keyW x)) (PySem.W.keyToks (keyW y)) = false := by
    have : (!PyProof.Rows.lexLt PyProof.Rows.itemOrd (PySem.W.keyToks (keyW x)) (PySem.W.keyToks (keyW y))) = true := h2
    simpa using this
  have := (PyProof.Rows.listOrd PyProof.Rows.itemOrd).total (PySem.W.keyToks (keyW x)) (PySem.W.keyToks (keyW y)) a2 a1
  rw [toksW, toksW] at this
  simp at this
  exact this.2
/-- the first of each -/
def nub (ws : List (List Nat)) : List (List Nat) := ws.foldl (fun a x => if x ∈ a then a else a ++ [x]) []
/-- adjacent equal ones once -/
def adj (ws : List (List Nat)) : List (List Nat) := ws.foldl (fun a x => if a.getLast? = some x then a else a ++ [x]) []
def inOrder (ws : List (List Nat)) : List (List Nat) := (nub ws).mergeSort leW
theorem nub_inv (ws : List (List Nat)) : ∀ acc : List (List Nat), acc.Nodup → (ws.foldl (fun a x => if x ∈ a then a else a ++ [x]) acc).Nodup ∧ ∀ z, z ∈ ws.foldl (fun a x => if x ∈ a then a else a ++ [x]) acc ↔ z ∈ acc ∨ z ∈ ws := by
  induction ws with
  | nil => intro acc h; exact ⟨h, fun z => by simp⟩
  | cons x ws ih =>
    intro acc h
    rw [List.foldl_cons]
    by_cases hx : x ∈ acc
    · rw [if_pos hx]
      obtain ⟨a, b⟩ := ih acc h
      refine ⟨a, fun z => ?_⟩
      rw [b z, List.mem_cons]
      constructor
      · rintro (q | q)
        · exact .inl q
        · exact .inr (.inr q)
      · rintro (q | q | q)
        · exact .inl q
        · subst q; exact .inl hx
        · exact .inr q
    · rw [if_neg hx]
      obtain ⟨a, b⟩ := ih (acc ++ [x]) (by
        rw [List.nodup_append]
        refine ⟨h, by simp, fun u hu v hv => ?_⟩
        simp at hv
        subst hv
        exact fun e => hx (e ▸ hu))
      refine ⟨a, fun z => ?_⟩
      rw [b z, List.mem_append, List.mem_singleton, List.mem_cons]
      constructor
      · rintro ((q | q) | q)
        · exact .inl q
        · exact .inr (.inl q)
        · exact .inr (.inr q)
      · rintro (q | q | q)
        · exact .inl (.inl q)
        · exact .inl (.inr q)
        · exact .inr q
theorem nub_nodup (ws : List (List Nat)) : (nub ws).Nodup := (nub_inv ws [] List.nodup_nil).1
theorem nub_mem (ws : List (List Nat)) (z : List Nat) : z ∈ nub ws ↔ z ∈ ws := by
  have := (nub_inv ws [] List.nodup_nil).2 z
  simpa [nub] using this
theorem sorted_unique : ∀ (xs ys : List (List Nat)), xs.Pairwise (fun a b => leW a b = true ∧ a ≠ b) → ys.Pairwise (fun a b => leW a b = true ∧ a ≠ b) → (∀ z, z ∈ xs ↔ z ∈ ys) → xs = ys
  | [], [], _, _, _ => rfl
  | [], y :: ys, _, _, h => absurd ((h y).mpr (by simp)) (by simp)
  | x :: xs, [], _, _, h => absurd ((h x).mp (by simp)) (by simp)
  | x :: xs, y :: ys, hx, hy, h => by
    rw [List.pairwise_cons] at hx hy
    have e : x = y := by
      rcases List.mem_cons.mp ((h x).mp (by simp)) with e | hm
      · exact e
      · rcases List.mem_cons.mp ((h y).mpr (by simp)) with e | hm2
        · exact e.symm
        · exact leW_anti x y (hx.1 y hm2).1 (hy.1 x hm).1
    subst e
    rw [sorted_unique xs ys hx.2 hy.2 fun z => ?_]
    have hz := h z
    rw [List.mem_cons, List.mem_cons] at hz
    constructor
    · intro q
      rcases hz.mp (.inr q) with e | q'
      · subst e; exact absurd rfl (hx.1 z q).2
      · exact q'
    · intro q
      rcases hz.mpr (.inr q) with e | q'
      · subst e; exact absurd rfl (hy.1 z q).2
      · exact q'
theorem inOrder_sorted (ws : List (List Nat)) : (inOrder ws).Pairwise (fun a b => leW a b = true ∧ a ≠ b) := by
  have h1 : (inOrder ws).Pairwise (fun a b => leW a b = true) := List.pairwise_mergeSort leW_trans leW_total (nub ws)
  have h2 : (inOrder ws).Nodup := (List.mergeSort_perm (nub ws) leW).nodup_iff.mpr (nub_nodup ws)
  exact h1.and h2
theorem inOrder_mem (ws : List (List Nat)) (z : List Nat) : z ∈ inOrder ws ↔ z ∈ ws := by
  unfold inOrder
  rw [(List.mergeSort_perm (nub ws) leW).mem_iff, nub_mem]
theorem adj_inv : ∀ (ws acc : List (List Nat)), acc.Pairwise (fun a b => leW a b = true ∧ a ≠ b) → ws.Pairwise (fun a b => leW a b = true) → (∀ a ∈ acc, ∀ w ∈ ws, leW a w = true) →
    (ws.foldl (fun a x => if a.getLast? = some x then a else a ++ [x]) acc).Pairwise (fun a b => leW a b = true ∧ a ≠ b) ∧ ∀ z, z ∈ ws.foldl (fun a x => if a.getLast? = some x then a else a ++ [x]) acc ↔ z ∈ acc ∨ z ∈ ws := by
  intro ws
  induction ws with
  | nil => intro acc h _ _; exact ⟨h, fun z => by simp⟩
  | cons x ws ih =>
    intro acc h hw hm
    rw [List.pairwise_cons] at hw
    rw [List.foldl_cons]
    by_cases hx : acc.getLast? = some x
    · rw [if_pos hx]
      obtain ⟨a, b⟩ := ih acc h hw.2 fun a ha w hww => hm a ha w (by simp [hww])
      refine ⟨a, fun z => ?_⟩
      rw [b z, List.mem_cons]
      have hxm : x ∈ acc := List.mem_of_getLast? hx
      constructor
      · rintro (q | q)
        · exact .inl q
        · exact .inr (.inr q)
      · rintro (q | q | q)
        · exact .inl q
        · subst q; exact .inl hxm
        · exact .inr q
    · rw [if_neg hx]
      have hnot : ∀ a ∈ acc, a ≠ x := by
        intro a ha e
        subst e
        -- the last one is at least a, and at most a
        obtain ⟨l, hl⟩ : ∃ l, acc.getLast? = some l := by
          cases q : acc.getLast? with
          | none => rw [List.getLast?_eq_none_iff] at q; subst q; cases ha
          | some l => exact ⟨l, rfl⟩
        have hlm : l ∈ acc := List.mem_of_getLast? hl
        have h1 : leW l a = true := hm l hlm a (by simp)
        have h2 : a = l ∨ leW a l = true := by
          obtain ⟨pre, e⟩ := List.getLast?_eq_some_iff.mp hl
          subst e
          rcases List.mem_append.mp ha with q | q
          · rw [List.pairwise_append] at h
            exact .inr (h.2.2 a q l (by simp)).1
          · simp at q; exact .inl q
        rcases h2 with e | h2
        · subst e; exact hx hl
        · have := leW_anti a l h2 h1
          subst this
          exact hx hl
      obtain ⟨a, b⟩ := ih (acc ++ [x]) (by
        rw [List.pairwise_append]
        refine ⟨h, by simp, fun u hu v hv => ?_⟩
        simp at hv
        subst hv
        exact ⟨hm u hu _ (by simp), hnot u hu⟩) hw.2 (by
        intro a ha w hww
        rcases List.mem_append.mp ha with q | q
        · exact hm a q w (by simp [hww])
        · simp at q; subst q; exact hw.1 w hww)
      refine ⟨a, fun z => ?_⟩
      rw [b z, List.mem_append, List.mem_singleton, List.mem_cons]
      constructor
      · rintro ((q | q) | q)
        · exact .inl q
        · exact .inr (.inl q)
        · exact .inr (.inr q)
      · rintro (q | q | q)
        · exact .inl (.inl q)
        · exact .inl (.inr q)
        · exact .inr q
/-- sorted, then adjacent ones once: the same -/
theorem adj_inOrder (ws : List (List Nat)) : adj (ws.mergeSort leW) = inOrder ws := by
  obtain ⟨h1, h2⟩ := adj_inv (ws.mergeSort leW) [] List.Pairwise.nil (List.pairwise_mergeSort leW_trans leW_total ws) (by simp)
  refine sorted_unique _ _ h1 (inOrder_sorted ws) fun z => ?_
  have := h2 z
  rw [inOrder_mem]
  show z ∈ adj (ws.mergeSort leW) ↔ _
  unfold adj
  rw [this, (List.mergeSort_perm ws leW).mem_iff]
  simp
theorem inOrder_congr {ws vs : List (List Nat)} (h : ∀ z, z ∈ ws ↔ z ∈ vs) : inOrder ws = inOrder vs := sorted_unique _ _ (inOrder_sorted ws) (inOrder_sorted vs) fun z => by rw [inOrder_mem, inOrder_mem]; exact h z
/-! ### as the program has it -/
def keyT (x : List Nat) : List D := [.int x.length, .str x]
theorem key_same (x y : List Nat) : sameK (keyT x) (keyT y, D.bl true) = decide (y = x) := by
  have e : keyD (.tup (keyT x)) = keyD (.tup (keyT y)) ↔ x = y := by
    simp only [keyT, keyD, keyDs, Option.map_some, Option.some.injEq, NestedKey.tup.injEq, List.cons.injEq, NestedKey.num.injEq, NestedKey.text.injEq, and_true]
    constructor
    · rintro ⟨_, e⟩; exact tx_inj.mp e
    · rintro rfl; exact ⟨rfl, rfl⟩
  unfold sameK
  rw [Bool.eq_iff_iff, decide_eq_true_eq, decide_eq_true_eq]
  constructor
  · intro q; exact (e.mp q.symm).symm
  · intro q; exact (e.mpr q.symm).symm
theorem okKey_T (x : List Nat) : okKey (keyT x) := ⟨.tup [.num x.length, .text (tx x)], by simp [keyT, keyD, keyDs], by simp [NestedKey.depth, NestedKey.depthAll]⟩
theorem putTs_nub : ∀ (ws acc : List (List Nat)), putTs (acc.map fun x => (keyT x, D.bl true)) (ws.map fun x => (keyT x, D.bl true)) = (ws.foldl (fun a x => if x ∈ a then a else a ++ [x]) acc).map fun x => (keyT x, D.bl true)
  | [], acc => rfl
  | x :: ws, acc => by
    rw [List.foldl_cons]
    show putTs (putT (acc.map fun x => (keyT x, D.bl true)) (keyT x) (.bl true)) (ws.map fun x => (keyT x, D.bl true)) = _
    have e : putT (acc.map fun x => (keyT x, D.bl true)) (keyT x) (.bl true) = (if x ∈ acc then acc else acc ++ [x]).map fun x => (keyT x, D.bl true) := by
      have ea : ((acc.map fun x => (keyT x, D.bl true)).any (sameK (keyT x))) = decide (x ∈ acc) := by
        rw [List.any_map, Bool.eq_iff_iff, decide_eq_true_eq, List.any_eq_true]
        constructor
        · rintro ⟨y, hy, q⟩
          have q : sameK (keyT x) (keyT y, D.bl true) = true := q
          rw [key_same, decide_eq_true_eq] at q
          subst q
          exact hy
        · intro q
          exact ⟨x, q, by show sameK (keyT x) (keyT x, D.bl true) = true; rw [key_same]; simp⟩
      unfold putT
      rw [ea]
      by_cases hx : x ∈ acc
      · rw [if_pos (by simpa using hx), if_pos hx, List.map_map]
        refine List.map_congr_left fun y _ => ?_
        show (if sameK (keyT x) (keyT y, D.bl true) = true then _ else _) = _
        split <;> rfl
      · rw [if_neg (by simpa using hx), if_neg hx, List.map_append]
        rfl
    rw [e]
    exact putTs_nub ws _
def pdW (x : List Nat) : PyData := keyW x
theorem pya_keys {h : DHp} : ∀ ws : List (List Nat), PyA h (ws.map fun x => .tup (keyT x)) (ws.map keyW)
  | [] => .nil
  | x :: ws => .cons (.tup (.cons (.int _) (.cons (.str _) .nil))) (pya_keys ws)
theorem alike_W (ws : List (List Nat)) : PySem.W.AllAlike (ws.map keyW) := by
  intro d hd d' hd'
  obtain ⟨x, _, rfl⟩ := List.mem_map.mp hd
  obtain ⟨y, _, rfl⟩ := List.mem_map.mp hd'
  simp [keyW, PySem.W.alike, PySem.W.alikeAll]
theorem sortable_W (ws : List (List Nat)) : PySem.W.Sortable (ws.map keyW) := .inl fun d hd => by
  obtain ⟨x, _, rfl⟩ := List.mem_map.mp hd
  exact ⟨_, _, rfl⟩
theorem depth_W (ws : List (List Nat)) : ∀ p ∈ ws.map keyW, p.depth ≤ 60 := fun d hd => by
  obtain ⟨x, _, rfl⟩ := List.mem_map.mp hd
  simp [keyW, PyData.depth, PyData.depthAll]
theorem sortD_W (ws : List (List Nat)) : sortD (ws.map fun x => .tup (keyT x)) (ws.map keyW) = (ws.mergeSort leW).map fun x => .tup (keyT x) := by
  unfold sortD
  have e : (ws.map fun x => D.tup (keyT x)).zip (ws.map keyW) = ws.map fun x => (D.tup (keyT x), keyW x) := by
    induction ws with
    | nil => rfl
    | cons x ws ih => simp [ih]
  rw [e, ← List.map_mergeSort (r := leW) (f := fun x => (D.tup (keyT x), keyW x)) (fun a _ b _ => rfl), List.map_map]
  rfl
end Tw
/-! From the head's facts to the premises of the walks. -/
namespace Tw
open PySem PySem.Spec PyProof.Rows L2
theorem keyOf_mem {P : Params} {es : List DictEntry} {ks : List Str} (h : es.map He.keyOf = He.keysIn P ks) {e : DictEntry} (he : e ∈ es) : ∃ k ∈ ks, ∃ t, e.key = .str k t := by
  have hm : He.keyOf e ∈ He.keysIn P ks := by rw [← h]; exact List.mem_map.mpr ⟨e, he, rfl⟩
  unfold He.keysIn at hm
  obtain ⟨k, hk, q⟩ := List.mem_map.mp hm
  unfold He.keyOf at q
  split at q
  · rename_i x t hx
    have q2 := Option.some.inj q
    obtain ⟨q3, _⟩ := Prod.mk.inj q2
    subst q3
    exact ⟨_, hk, t, hx⟩
  · cases q
theorem dicW_shape {K : PySem.W.Frag} {a : Addr} {l : List (Option (Str × Int))} (h : He.dicW K a = some l) : ∃ oc od es n sl, K.lookup a = some ⟨oc, od, .dict es n, sl⟩ ∧ es.toList.map He.keyOf = l := by
  unfold He.dicW at h
  split at h
  · rename_i c es n sl e
    split at h
    · exact ⟨_, _, es, n, sl, e, Option.some.inj h⟩
    · cases h
  · cases h
theorem hasKD_of {P : Program} {w : World} {K : PySem.W.Frag} {mg : Str → Option Value} {x : Str} {kvs : List (Str × He.Dv)} {f : List Nat → Option D} (h1 : He.dicW K (He.ga K x) = some (He.keysIn w.params (kvs.map (·.1)))) (hm : mg x = some (.ref (He.ga K x))) (h2 : He.valsB K (He.ga K x) kvs = true)
    (hf : ∀ z, (f z = none ∧ ∀ q ∈ kvs, q.1 ≠ tx z) ∨ ∃ q ∈ kvs, q.1 = tx z ∧ ∃ d, f z = some d ∧ ∀ H, Rep K H d (q.2.v K)) : HasKD P w K mg x f := by
  refine ⟨_, hm, He.dicW_ok h1, fun z => ?_⟩
  rcases hf z with ⟨fz, hn⟩ | ⟨q, hq, e, d, fz, r⟩
  · refine .inl ⟨fz, ?_⟩
    obtain ⟨oc, od, es, n, sl, lk, e⟩ := dicW_shape h1
    unfold PySem.W.nsIn
    rw [lk]
    have e1 : es.toList.find? (·.key.isStr (tx z)) = none := by
      rw [List.find?_eq_none]
      intro e' he
      obtain ⟨k, hk, t, hx⟩ := keyOf_mem e he
      obtain ⟨q, hq, e2⟩ := List.mem_map.mp hk
      have ne := hn q hq
      rw [hx]
      rw [e2] at ne
      simpa [Value.isStr] using ne
    have e2 : es.toList.any (·.refKey) = false := by
      rw [List.any_eq_false]
      intro e' he
      obtain ⟨k, hk, t, hx⟩ := keyOf_mem e he
      simp [DictEntry.refKey, hx]
    simp only [e1, e2]
    rfl
  · obtain ⟨u, hu, rv⟩ := He.valsB_ok h2 hq
    exact .inr ⟨d, _, u, fz, by rw [← e]; exact hu, rv, r⟩
/-! ### the program's exception classes -/
def ecN : Ex → Str
  | .tear => "TearError" | .machine => "NoMachine" | .rule => "NoRule" | .word => "NoWord" | .stretch => "NoStretch" | .reading => "NoReading" | .side => "NoSide" | .count => "NoCount" | .hint => "NoHint" | .check => "NoCheck"
  | .kind => "NoKind" | .things => "NoThings" | .desk => "NoDesk" | .deed => "NoDeed" | .undo => "NoUndo" | .twice => "Twice" | .notThere => "NotThere" | .tooGreat => "TooGreat" | .rivals => "Rivals"
def excB (K : PySem.W.Frag) (kn : List Ex) : Bool := kn.all fun C => kn.all fun c => (He.Fa.exm (ecN C) (ecN c) (subE C c)).ok K
def distB : List Addr → Bool
  | [] => true
  | a :: r => !(r.any fun b => a == b) && distB r
abbrev tabN (K : PySem.W.Frag) (ts : List Str) : List (Addr × Str) := ts.map fun x => ((He.cT K (x, none)).2, lamQ x)
/-- the tables and the classes of the head -/
def mkT (K : PySem.W.Frag) (ts : List Str) : Tb := ⟨tabN K ts, fun C => He.ga K (ecN C)⟩
theorem excK_of {K : PySem.W.Frag} {ts : List Str} {kn : List Ex} (h : excB K kn = true) : ExcK K (mkT K ts) kn := ⟨fun C hC c hc => by
  unfold excB at h
  exact He.exm_ok (List.all_eq_true.mp (List.all_eq_true.mp h C hC) c hc)⟩
theorem hasEx_of {K : PySem.W.Frag} {hp : Heap} {mg : Str → Option Value} {ts : List Str} {x : Str} {C : Ex} (hx : ecN C = x) (X : K.In hp) (G : hp.Ns mainGlobals mg) (g : (He.Fa.glo x).ok K = true) (e : (He.Fa.exc x).ok K = true) : HasEx K mg (mkT K ts) x C := by
  subst hx
  obtain ⟨h1, h2, h3, h4⟩ := He.exc_ok e
  exact ⟨He.glo_ok X G g, h1, h2, h3, h4⟩
theorem tab_in {K : PySem.W.Frag} {ts : List Str} {x : Str} (h : x ∈ ts) : ((He.cT K (x, none)).2, lamQ x) ∈ (mkT K ts).tabs := List.mem_map.mpr ⟨x, h, rfl⟩
theorem dist_one {K : PySem.W.Frag} : ∀ {ts : List Str} {x y : Str}, distB (ts.map fun x => (He.cT K (x, none)).2) = true → x ∈ ts → y ∈ ts → (He.cT K (y, none)).2 = (He.cT K (x, none)).2 → y = x
  | [], _, _, _, h, _, _ => by cases h
  | z :: ts, x, y, hd, hx, hy, e => by
    rw [List.map_cons, distB, Bool.and_eq_true] at hd
    have no : ∀ u ∈ ts, (He.cT K (z, none)).2 ≠ (He.cT K (u, none)).2 := fun u hu ee => by
      have h1 := hd.1
      rw [Bool.not_eq_true', List.any_eq_false] at h1
      exact h1 _ (List.mem_map.mpr ⟨u, hu, rfl⟩) (by rw [ee]; simp)
    rcases List.mem_cons.mp hx with rfl | hx' <;> rcases List.mem_cons.mp hy with rfl | hy'
    · rfl
    · exact absurd e.symm (no y hy')
    · exact absurd e (no x hx')
    · exact dist_one hd.2 hx' hy' e
theorem tab_one {K : PySem.W.Frag} {ts : List Str} {x : Str} (hd : distB (ts.map fun x => (He.cT K (x, none)).2) = true) (h : x ∈ ts) : ∀ p ∈ (mkT K ts).tabs, p.1 = (He.cT K (x, none)).2 → p.2 = lamQ x := by
  intro p hp e
  obtain ⟨y, hy, rfl⟩ := List.mem_map.mp hp
  have := dist_one hd h hy e
  subst this
  rfl
theorem cat_of {K : PySem.W.Frag} {mg : Str → Option Value} {T : Tb} {x lst a : Str} {cls : List (Ex × List Nat)} {last : List Nat} {pg : Arguments} {body : List Stmt} {sg : Scope} {f : Addr} {fd : FuncData} {Ng : List Str} {h0 : ExceptHandler} {hds : List ExceptHandler} {j : Nat} {p1 p2 p3 p4 p5 p6 : Pos}
    (F : FunD K x x pg body sg [] [] f fd) (hb : body = [.Try [.Expr (.Call (.Name a p1) [] [] p2) p3] (h0 :: hds) [] [] p4, .Return (some (.Constant (.str lst) j p5)) p6]) (hlst : lst = tx last) (hm : mg x = some (.ref f)) (Sg : FnScope Ng [a] sg) (hNg : Ng[0]? = some a) (hva : Vis sg a)
    (h00 : ∀ f : Addr, (L2.start Ng [V.ref f])[0]? = some (some (V.ref f))) (hh : CatH sg Ng mg (h0 :: hds) (catVs T cls)) (B : Binds K fd [a] []) (hd : (a == ("__debug__" : Str)) = false) (hcd : (a == ("__classdict__" : Str)) = false) : HasCat K mg T x cls last := by
  subst hb
  obtain ⟨oc, od, dV, kV, doc, pm, an, cdv, ct, osl, e, lk, hc, _, _⟩ := F.ex
  subst e
  exact .mk hlst hm F.kp lk hc B Sg hNg hva h00 hh hd hcd
theorem says_dic {fa : List He.Fa} {fn : List He.DefD} {ts : List He.Tab} {w : World} {K : PySem.W.Frag} (c : He.SaysT fa fn ts w K) (i : Nat) {t : He.Tab} (h : ts[i]? = some t) : He.dicW K (t.1 K) = some (He.keysIn w.params t.2) := by
  have e : ts.map (fun t => He.dicW K (t.1 K)) = ts.map fun t => some (He.keysIn w.params t.2) := congrArg (fun z : He.AlT => z.2) c
  have e2 : (ts.map fun t => He.dicW K (t.1 K))[i]? = (ts.map fun t => some (He.keysIn w.params t.2))[i]? := by rw [e]
  rw [List.getElem?_map, List.getElem?_map, h] at e2
  exact Option.some.inj e2
end Tw
/-! the head of tearwords_k32_words_of_machines, printed by wip/genhead.py -/
namespace Hk32
open PySem PySem.Spec PyProof.Rows L2
def top (i : Nat) : Stmt := PySem.Challenge.pw_tearwords_k32_words_of_machines.main.body.getD i (.Pass ⟨0, 0, 0, 0⟩)
abbrev s_is_within : Stmt := top 11
abbrev s_are_letters : Stmt := top 12
abbrev s_is_state : Stmt := top 13
abbrev s_are_ends : Stmt := top 14
abbrev s_is_machine : Stmt := top 15
abbrev s_need_machine : Stmt := top 16
abbrev s_is_made_of : Stmt := top 17
abbrev s_is_text : Stmt := top 18
abbrev s_need_text : Stmt := top 19
abbrev s_gone_on : Stmt := top 20
abbrev s_raw_has : Stmt := top 21
abbrev s_has_word : Stmt := top 22
abbrev s_living : Stmt := top 23
abbrev s_nexts : Stmt := top 24
abbrev s_raw_first : Stmt := top 25
abbrev s_need_many : Stmt := top 26
abbrev s_first_words : Stmt := top 27
abbrev s__law_open : Stmt := top 29
abbrev s__law_spread : Stmt := top 30
abbrev s__law_take : Stmt := top 31
abbrev s__law_one_of : Stmt := top 32
abbrev s__law_any_machine : Stmt := top 33
abbrev s__law_run : Stmt := top 34
abbrev s__law_has : Stmt := top 35
abbrev s__law_words : Stmt := top 36
abbrev s__law_sorted : Stmt := top 37
abbrev s__law_word : Stmt := top 38
abbrev s__law_firsts : Stmt := top 39
abbrev s__law_any_path : Stmt := top 40
abbrev s_law : Stmt := top 41
def d_is_within : He.DefD := ⟨("is_within", none), "is_within", "is_within", defArgs s_is_within, defBody s_is_within, defScope s_is_within, [], []⟩
def d_are_letters : He.DefD := ⟨("are_letters", none), "are_letters", "are_letters", defArgs s_are_letters, defBody s_are_letters, defScope s_are_letters, [], []⟩
def d_is_state : He.DefD := ⟨("is_state", none), "is_state", "is_state", defArgs s_is_state, defBody s_is_state, defScope s_is_state, [], []⟩
def d_are_ends : He.DefD := ⟨("are_ends", none), "are_ends", "are_ends", defArgs s_are_ends, defBody s_are_ends, defScope s_are_ends, [], []⟩
def d_is_machine : He.DefD := ⟨("is_machine", none), "is_machine", "is_machine", defArgs s_is_machine, defBody s_is_machine, defScope s_is_machine, [], []⟩
def d_need_machine : He.DefD := ⟨("need_machine", none), "need_machine", "need_machine", defArgs s_need_machine, defBody s_need_machine, defScope s_need_machine, [], []⟩
def d_is_made_of : He.DefD := ⟨("is_made_of", none), "is_made_of", "is_made_of", defArgs s_is_made_of, defBody s_is_made_of, defScope s_is_made_of, [], []⟩
def d_is_text : He.DefD := ⟨("is_text", none), "is_text", "is_text", defArgs s_is_text, defBody s_is_text, defScope s_is_text, [], []⟩
def d_need_text : He.DefD := ⟨("need_text", none), "need_text", "need_text", defArgs s_need_text, defBody s_need_text, defScope s_need_text, [], []⟩
def d_gone_on : He.DefD := ⟨("gone_on", none), "gone_on", "gone_on", defArgs s_gone_on, defBody s_gone_on, defScope s_gone_on, [], []⟩
def d_raw_has : He.DefD := ⟨("raw_has", none), "raw_has", "raw_has", defArgs s_raw_has, defBody s_raw_has, defScope s_raw_has, [], []⟩
def d_has_word : He.DefD := ⟨("has_word", none), "has_word", "has_word", defArgs s_has_word, defBody s_has_word, defScope s_has_word, [], []⟩
def d_living : He.DefD := ⟨("living", none), "living", "living", defArgs s_living, defBody s_living, defScope s_living, [], []⟩
def d_nexts : He.DefD := ⟨("nexts", none), "nexts", "nexts", defArgs s_nexts, defBody s_nexts, defScope s_nexts, [], []⟩
def d_raw_first : He.DefD := ⟨("raw_first", none), "raw_first", "raw_first", defArgs s_raw_first, defBody s_raw_first, defScope s_raw_first, [], []⟩
def d_need_many : He.DefD := ⟨("need_many", none), "need_many", "need_many", defArgs s_need_many, defBody s_need_many, defScope s_need_many, [], []⟩
def d_first_words : He.DefD := ⟨("first_words", none), "first_words", "first_words", defArgs s_first_words, defBody s_first_words, defScope s_first_words, [], []⟩
def d__law_open : He.DefD := ⟨("_law_open", none), "_law_open", "_law_open", defArgs s__law_open, defBody s__law_open, defScope s__law_open, [], []⟩
def d__law_spread : He.DefD := ⟨("_law_spread", none), "_law_spread", "_law_spread", defArgs s__law_spread, defBody s__law_spread, defScope s__law_spread, [], []⟩
def d__law_take : He.DefD := ⟨("_law_take", none), "_law_take", "_law_take", defArgs s__law_take, defBody s__law_take, defScope s__law_take, [], []⟩
def d__law_one_of : He.DefD := ⟨("_law_one_of", none), "_law_one_of", "_law_one_of", defArgs s__law_one_of, defBody s__law_one_of, defScope s__law_one_of, [], []⟩
def d__law_any_machine : He.DefD := ⟨("_law_any_machine", none), "_law_any_machine", "_law_any_machine", defArgs s__law_any_machine, defBody s__law_any_machine, defScope s__law_any_machine, [], []⟩
def d__law_run : He.DefD := ⟨("_law_run", none), "_law_run", "_law_run", defArgs s__law_run, defBody s__law_run, defScope s__law_run, [], []⟩
def d__law_has : He.DefD := ⟨("_law_has", none), "_law_has", "_law_has", defArgs s__law_has, defBody s__law_has, defScope s__law_has, [], []⟩
def d__law_words : He.DefD := ⟨("_law_words", none), "_law_words", "_law_words", defArgs s__law_words, defBody s__law_words, defScope s__law_words, [], []⟩
def d__law_sorted : He.DefD := ⟨("_law_sorted", none), "_law_sorted", "_law_sorted", defArgs s__law_sorted, defBody s__law_sorted, defScope s__law_sorted, [], []⟩
def d__law_word : He.DefD := ⟨("_law_word", none), "_law_word", "_law_word", defArgs s__law_word, defBody s__law_word, defScope s__law_word, [], []⟩
def d__law_firsts : He.DefD := ⟨("_law_firsts", none), "_law_firsts", "_law_firsts", defArgs s__law_firsts, defBody s__law_firsts, defScope s__law_firsts, [], []⟩
def d__law_any_path : He.DefD := ⟨("_law_any_path", none), "_law_any_path", "_law_any_path", defArgs s__law_any_path, defBody s__law_any_path, defScope s__law_any_path, [], []⟩
def d_law : He.DefD := ⟨("law", none), "law", "law", defArgs s_law, defBody s_law, defScope s_law, [], []⟩
def fn : List He.DefD := [d_is_within, d_are_letters, d_is_state, d_are_ends, d_is_machine, d_need_machine, d_is_made_of, d_is_text, d_need_text, d_gone_on, d_raw_has, d_has_word, d_living, d_nexts, d_raw_first, d_need_many, d_first_words, d__law_open, d__law_spread, d__law_take, d__law_one_of, d__law_any_machine, d__law_run, d__law_has, d__law_words, d__law_sorted, d__law_word, d__law_firsts, d__law_any_path, d_law]
def fa : List He.Fa := [.glo "is_within", .glo "are_letters", .glo "is_state", .glo "are_ends", .glo "is_machine", .glo "need_machine", .glo "is_made_of", .glo "is_text", .glo "need_text", .glo "gone_on", .glo "raw_has", .glo "has_word", .glo "living", .glo "nexts", .glo "raw_first", .glo "need_many", .glo "first_words", .glo "_law_open", .glo "_law_spread", .glo "_law_take", .glo "_law_one_of", .glo "_law_any_machine", .glo "_law_run", .glo "_law_has", .glo "_law_words", .glo "_law_sorted", .glo "_law_word", .glo "_law_firsts", .glo "_law_any_path", .glo "law", .glo "TearError", .exc "TearError", .keep "TearError", .glo "NoMachine", .exc "NoMachine", .keep "NoMachine", .glo "NoWord", .exc "NoWord", .keep "NoWord", .glo "NoCount", .exc "NoCount", .keep "NoCount", .free "ValueError", .free "all", .free "any", .free "bool", .free "dict", .free "enumerate", .free "int", .free "isinstance", .free "len", .free "list", .free "range", .free "repr", .free "set", .free "sorted", .free "str", .free "tuple", .free "zip", .str "SMALL" "abcdefghijklmnopqrstuvwxyz", .int "MOST_LETTERS" 3, .int "MOST_STATES" 6, .int "MOST_SIGNS" 200, .int "MOST_WORDS" 40]
def ts : List He.Tab := []
def tf : List He.Defn := [("law", none)]
def lams : List Str := ["law"]
def kn : List Tw.Ex := [.tear, .machine, .word, .count]
def ex (K : PySem.W.Frag) : Bool := Tw.excB K kn && (Tw.distB (lams.map fun x => (He.cT K (x, none)).2))
abbrev R : PySem.W.OpenRow := PySem.W.OpenLaw.row PySem.Challenge.rw_tearwords_k32_words_of_machines
abbrev hk : PySem.W.Hook := He.hookX 6 fa fn ts tf ex
def ob (s : PySem.W.SharedT) : He.AlX := He.obsX 6 fa fn ts tf ex (HandSHeadRun.getT s)
theorem ob_eq (s : PySem.W.SharedT) : ob s = hk.obs s.abs := He.obsX_eq (HandSHeadRun.getT_eq s)
def loose0 : List Str := ["TearError", "NoMachine", "NoWord", "NoCount", "SMALL", "MOST_LETTERS", "MOST_STATES", "MOST_SIGNS", "MOST_WORDS", "is_within", "are_letters", "is_state", "are_ends", "is_machine", "need_machine", "is_made_of", "is_text", "need_text", "gone_on", "raw_has", "has_word", "living", "nexts", "raw_first", "need_many", "first_words", "_law_open", "_law_spread", "_law_take", "_law_one_of"]
def loose1 : List Str := ["_law_any_machine", "_law_run", "_law_has", "_law_words", "_law_sorted", "_law_word", "_law_firsts", "_law_any_path"]
def loose : List Str := loose0 ++ loose1
abbrev qv : Program := PySem.W.view R.prog [41]
theorem run (w : World) : HandSHeadRun.RunEq R qv hk ob 4000 loose w := by
  refine PySem.W.byRow2 "special-get-raises" (P := fun w => HandSHeadRun.RunEq R qv hk ob 4000 loose w) (fun w => ?_) (fun w => ?_) w
  · intro os
    kernel_rfl
  · intro os
    kernel_rfl
end Hk32
/-! What the defs of machines, tears and of law k33 do, over data. -/
namespace Tw
open PySem PySem.Spec PyProof.Rows L2
abbrev Tx := List Nat
/-- what isinstance may ask of -/
def Plain (d : D) (h : DHp) : Prop := ∀ t, ∃ b, isA t d h = some b
/-- least <= thing <= most, thing a whole number -/
def within (t : D) (a b : Int) : Bool := match t with
  | .int i => decide (a ≤ i) && decide (i ≤ b)
  | _ => false
theorem isA_int {d : D} {h : DHp} (h1 : isA .int d h = some true) (h2 : isA .bool d h = some false) : ∃ i, d = .int i := by
  cases d with
  | int i => exact ⟨i, rfl⟩
  | bl b => simp [isA] at h2
  | ref a =>
    simp only [isA] at h1
    split at h1 <;> simp at h1
  | _ => simp [isA] at h1
theorem within_no {d : D} {h : DHp} {a b : Int} (e : isA .int d h = some false ∨ isA .bool d h = some true) : within d a b = false := by
  cases d with
  | int i => simp [isA] at e
  | _ => rfl
def sp_is_within : SpD := fun ds h Q _ => match ds with
  | [t, .int a, .int b] => Plain t h ∧ Q (.bl (within t a b)) h
  | _ => False
/-- is_within(thing, least, most); slots: thing 0, least 1, most 2 -/
def N_is_within : List Str := ["thing", "least", "most"]
def m_is_within : MS := dRet (dAndV (dIsA .int (dVar 0)) (dAndV (dNotV (dIsA .bool (dVar 0))) (dChain dLe dLe (dVar 1) (dVar 0) (dVar 2))))
theorem st_is_within (a0 a1 a2 : D) : startD N_is_within [a0, a1, a2] = [some a0, some a1, some a2] := rfl
theorem ok_is_within (ds : List D) (h : DHp) (Q : DK) (E : DX) (hn : ds.length = 3) (q : sp_is_within ds h Q E) : m_is_within (endsD Q E) (startD N_is_within ds) h := by
  match ds, q with
  | [t, .int a, .int b], ⟨pl, q⟩ =>
    simp only [m_is_within, st_is_within, forall_const, true_implies, false_implies, implies_true, and_true, true_and, reduceCtorEq, Bool.not_true, Bool.not_false, Bool.true_xor, Bool.false_xor, Option.some.injEq, exists_eq_left', put_same, onB_bl, dSeq, dNext, dBreak, dDrop, dRet, dRetN, dIfS, dName, dgNil, dgCons, dgTup, dAsg, dPar, dPar3, dSetI, dgSub, dRaise, dVar, dC, dOp, dTest, dAnd, dOr, dNot, dAndV, dOrV, dNotV, dIf, dNil, dCons, dTup, dLst, dCall, dCB, dMt, dMt0, dInC, dIxC, dChain, dNeg, dNoPart, dPart, dSl, exE, dIsA, dCat, catchD, subE, Ex.ix, endsD, dLc, dISeq, dIRng1, dIRng2, dIEnum, dFor, dDcT, dDcK, dCallV, mStarts_str, mIndex_str, mUpper_str, dSortSet, dListZip, dListRng, dDnew, dLc2, List.getElem?_cons_zero, List.getElem?_cons_succ, List.set_cons_zero, List.set_cons_succ, onL_lst, isA_non, isA_int_int, isA_bool_int, isA_str_int, isA_tup_int, isA_lst_int, isA_int_str, isA_bool_str, isA_str_str, isA_tup_str, isA_lst_str, isA_int_tup, isA_bool_tup, isA_str_tup, isA_tup_tup, isA_lst_tup, isA_int_bl, isA_bool_bl, isA_str_bl, isA_tup_bl, isA_lst_bl, dAdd_int, dAdd_str, dAdd_tup, dAdd_ref, dSub_int, dLt_int, dLe_int, dGt_int, dGe_int, dMul_int, dMul_str, dMul_ref, dMod_int, dFdiv_int, dPow_int, dIsN_, dNotN_, isNon_int, isNon_non, dEq_str, dEq_int, dNe_str, dNe_int, dIn_sign, dIx_str, dIx_tup, dIx_scr, dIx_ref, dCut_str, dCut_tup, dCut_scr, dCut_ref, bLen_str, bLen_tup, bLen_ref, bInt_int, bInt_bl, bTup_tup, bTup_ref, bList_str, bList_tup, bList_ref, tyD_str, mAppend_ref, mExtend_ref, tyL, dSetL_ref, mJoin_ref, bMin_ref, bMax_ref, atI_0, atI_1, atI_2]
    obtain ⟨b1, e1⟩ := pl .int
    obtain ⟨b2, e2⟩ := pl .bool
    refine ⟨b1, e1, fun h1 => ⟨b2, e2, fun h2 => ?_, fun h2 => ?_⟩, fun h1 => ?_⟩
    · have z2 : b2 = false := by simpa using h2
      subst h1 z2
      obtain ⟨i, rfl⟩ := isA_int e1 e2
      simp only [onB]
      refine ⟨fun h1 => fgt_here ?_, fun h1 => fgt_here ?_⟩
      · simpa [within, h1] using q
      · simpa [within, h1] using q
    · have z2 : b2 = true := by simpa using h2
      subst z2
      rw [within_no (.inr e2)] at q
      exact fgt_here q
    · subst h1
      rw [within_no (.inl e1)] at q
      exact fgt_here q
/-- all of text's signs are among letters -/
def madeOf (x l : Tx) : Bool := x.all fun c => decide (c ∈ l)
def sp_is_made_of : SpD := fun ds h Q _ => match ds with
  | [.str x, .str l] => x.length ≤ 10000 ∧ Q (.bl (madeOf x l)) h
  | _ => False
/-- is_made_of(text, letters); slots: text 0, letters 1, sign 2 -/
def N_is_made_of : List Str := ["text", "letters", "sign"]
def m_is_made_of : MS := dRet (dCB (bAll fun bs => bs.all id) (dCons (dLc (dISeq (dVar 0)) (.nm 2) (dYes) (dOp (dIn false) (dVar 2) (dVar 1)) [2]) (dNil)))
theorem st_is_made_of (a0 a1 : D) : startD N_is_made_of [a0, a1] = [some a0, some a1, none] := rfl
theorem ok_is_made_of (ds : List D) (h : DHp) (Q : DK) (E : DX) (hn : ds.length = 2) (q : sp_is_made_of ds h Q E) : m_is_made_of (endsD Q E) (startD N_is_made_of ds) h := by
  match ds, q with
  | [.str x, .str l], ⟨hz, q⟩ =>
    simp only [m_is_made_of, st_is_made_of, forall_const, true_implies, false_implies, implies_true, and_true, true_and, reduceCtorEq, Bool.not_true, Bool.not_false, Bool.true_xor, Bool.false_xor, Option.some.injEq, exists_eq_left', put_same, onB_bl, dSeq, dNext, dBreak, dDrop, dRet, dRetN, dIfS, dName, dgNil, dgCons, dgTup, dAsg, dPar, dPar3, dSetI, dgSub, dRaise, dVar, dC, dOp, dTest, dAnd, dOr, dNot, dAndV, dOrV, dNotV, dIf, dNil, dCons, dTup, dLst, dCall, dCB, dMt, dMt0, dInC, dIxC, dChain, dNeg, dNoPart, dPart, dSl, exE, dIsA, dCat, catchD, subE, Ex.ix, endsD, dLc, dISeq, dIRng1, dIRng2, dIEnum, dFor, dDcT, dDcK, dCallV, mStarts_str, mIndex_str, mUpper_str, dSortSet, dListZip, dListRng, dDnew, dLc2, List.getElem?_cons_zero, List.getElem?_cons_succ, List.set_cons_zero, List.set_cons_succ, onL_lst, isA_non, isA_int_int, isA_bool_int, isA_str_int, isA_tup_int, isA_lst_int, isA_int_str, isA_bool_str, isA_str_str, isA_tup_str, isA_lst_str, isA_int_tup, isA_bool_tup, isA_str_tup, isA_tup_tup, isA_lst_tup, isA_int_bl, isA_bool_bl, isA_str_bl, isA_tup_bl, isA_lst_bl, dAdd_int, dAdd_str, dAdd_tup, dAdd_ref, dSub_int, dLt_int, dLe_int, dGt_int, dGe_int, dMul_int, dMul_str, dMul_ref, dMod_int, dFdiv_int, dPow_int, dIsN_, dNotN_, isNon_int, isNon_non, dEq_str, dEq_int, dNe_str, dNe_int, dIn_sign, dIx_str, dIx_tup, dIx_scr, dIx_ref, dCut_str, dCut_tup, dCut_scr, dCut_ref, bLen_str, bLen_tup, bLen_ref, bInt_int, bInt_bl, bTup_tup, bTup_ref, bList_str, bList_tup, bList_ref, tyD_str, mAppend_ref, mExtend_ref, tyL, dSetL_ref, mJoin_ref, bMin_ref, bMax_ref, atI_0, atI_1, atI_2, dLc, dISeq]
    refine lcB_map (fun d => match d with | .str [c] => .bl (decide (c ∈ l)) | _ => .non) True.intro (by rw [List.length_map, sizeLine_eq]; omega) (fun d hd => ?_) fun p np => ?_
    · obtain ⟨c, hc, rfl⟩ := List.mem_map.mp hd
      refine ⟨_, rfl, fun K k => ?_⟩
      show K (.bl (xor false (decide (c ∈ l)))) h
      simpa using k
    · refine ⟨x.map fun c => decide (c ∈ l), ?_, h, Less.put np, ?_⟩
      · simp [listD, put_same, List.map_map, Function.comp_def]
      · have e : (x.map fun c => decide (c ∈ l)).all id = madeOf x l := by simp [madeOf, List.all_map, Function.comp_def]
        show Q (.bl ((x.map fun c => decide (c ∈ l)).all id)) h
        rw [e]
        exact q
/-- a word of letters: a text of at most two hundred signs, all among them -/
def isText (t : D) (l : Tx) : Bool := match t with
  | .str x => decide (x.length ≤ 200) && madeOf x l
  | _ => false
def sp_is_text : SpD := fun ds h Q _ => match ds with
  | [t, .str l] => Plain t h ∧ (∀ x, t = .str x → x.length ≤ 10000) ∧ Q (.bl (isText t l)) h
  | _ => False
/-- is_text(thing, letters); slots: thing 0, letters 1 -/
def N_is_text : List Str := ["thing", "letters"]
def m_is_text : MS := dRet (dAndV (dIsA .str (dVar 0)) (dAndV (dOp dLe (dCB bLen (dCons (dVar 0) (dNil))) (dC (.int 200))) (dCall 2 sp_is_made_of (dCons (dVar 0) (dCons (dVar 1) (dNil))))))
theorem st_is_text (a0 a1 : D) : startD N_is_text [a0, a1] = [some a0, some a1] := rfl
theorem ok_is_text (ds : List D) (h : DHp) (Q : DK) (E : DX) (hn : ds.length = 2) (q : sp_is_text ds h Q E) : m_is_text (endsD Q E) (startD N_is_text ds) h := by
  match ds, q with
  | [t, .str l], ⟨pl, hz, q⟩ =>
    simp only [m_is_text, st_is_text, forall_const, true_implies, false_implies, implies_true, and_true, true_and, reduceCtorEq, Bool.not_true, Bool.not_false, Bool.true_xor, Bool.false_xor, Option.some.injEq, exists_eq_left', put_same, onB_bl, dSeq, dNext, dBreak, dDrop, dRet, dRetN, dIfS, dName, dgNil, dgCons, dgTup, dAsg, dPar, dPar3, dSetI, dgSub, dRaise, dVar, dC, dOp, dTest, dAnd, dOr, dNot, dAndV, dOrV, dNotV, dIf, dNil, dCons, dTup, dLst, dCall, dCB, dMt, dMt0, dInC, dIxC, dChain, dNeg, dNoPart, dPart, dSl, exE, dIsA, dCat, catchD, subE, Ex.ix, endsD, dLc, dISeq, dIRng1, dIRng2, dIEnum, dFor, dDcT, dDcK, dCallV, mStarts_str, mIndex_str, mUpper_str, dSortSet, dListZip, dListRng, dDnew, dLc2, List.getElem?_cons_zero, List.getElem?_cons_succ, List.set_cons_zero, List.set_cons_succ, onL_lst, isA_non, isA_int_int, isA_bool_int, isA_str_int, isA_tup_int, isA_lst_int, isA_int_str, isA_bool_str, isA_str_str, isA_tup_str, isA_lst_str, isA_int_tup, isA_bool_tup, isA_str_tup, isA_tup_tup, isA_lst_tup, isA_int_bl, isA_bool_bl, isA_str_bl, isA_tup_bl, isA_lst_bl, dAdd_int, dAdd_str, dAdd_tup, dAdd_ref, dSub_int, dLt_int, dLe_int, dGt_int, dGe_int, dMul_int, dMul_str, dMul_ref, dMod_int, dFdiv_int, dPow_int, dIsN_, dNotN_, isNon_int, isNon_non, dEq_str, dEq_int, dNe_str, dNe_int, dIn_sign, dIx_str, dIx_tup, dIx_scr, dIx_ref, dCut_str, dCut_tup, dCut_scr, dCut_ref, bLen_str, bLen_tup, bLen_ref, bInt_int, bInt_bl, bTup_tup, bTup_ref, bList_str, bList_tup, bList_ref, tyD_str, mAppend_ref, mExtend_ref, tyL, dSetL_ref, mJoin_ref, bMin_ref, bMax_ref, atI_0, atI_1, atI_2]
    obtain ⟨b, e⟩ := pl .str
    refine ⟨b, e, fun hb => ?_, fun hb => ?_⟩
    · subst hb
      have z : ∃ x, t = .str x := by
        cases t with
        | str x => exact ⟨x, rfl⟩
        | ref a => simp only [isA] at e; split at e <;> simp at e
        | _ => simp [isA] at e
      obtain ⟨x, rfl⟩ := z
      have hx := hz x rfl
      refine ⟨by rw [sizeLine_eq]; omega, ?_⟩
      refine ⟨fun h1 => ⟨rfl, hx, fgt_here ?_⟩, fun h1 => fgt_here ?_⟩
      · have h1 : x.length ≤ 200 := by have := of_decide_eq_true h1; omega
        simpa [isText, h1] using q
      · have h1 : ¬ x.length ≤ 200 := by have := of_decide_eq_false h1; omega
        simpa [isText, h1] using q
    · subst hb
      have z : isText t l = false := by
        cases t with
        | str x => simp [isA] at e
        | _ => rfl
      rw [z] at q
      exact fgt_here q
def sp_need_text : SpD := fun ds h Q E => match ds with
  | [t, .str l] => Plain t h ∧ (∀ x, t = .str x → x.length ≤ 10000) ∧ (isText t l = true → Q .non h) ∧ (isText t l = false → E .word h)
  | _ => False
/-- need_text(thing, letters); slots: thing 0, letters 1 -/
def N_need_text : List Str := ["thing", "letters"]
def m_need_text : MS := dIfS (dNot (dTest (dCall 2 sp_is_text (dCons (dVar 0) (dCons (dVar 1) (dNil)))))) (dRaise .word) (dNext)
theorem st_need_text (a0 a1 : D) : startD N_need_text [a0, a1] = [some a0, some a1] := rfl
theorem ok_need_text (ds : List D) (h : DHp) (Q : DK) (E : DX) (hn : ds.length = 2) (q : sp_need_text ds h Q E) : m_need_text (endsD Q E) (startD N_need_text ds) h := by
  match ds, q with
  | [t, .str l], ⟨pl, hz, q1, q2⟩ =>
    simp only [m_need_text, st_need_text, forall_const, true_implies, false_implies, implies_true, and_true, true_and, reduceCtorEq, Bool.not_true, Bool.not_false, Bool.true_xor, Bool.false_xor, Option.some.injEq, exists_eq_left', put_same, onB_bl, dSeq, dNext, dBreak, dDrop, dRet, dRetN, dIfS, dName, dgNil, dgCons, dgTup, dAsg, dPar, dPar3, dSetI, dgSub, dRaise, dVar, dC, dOp, dTest, dAnd, dOr, dNot, dAndV, dOrV, dNotV, dIf, dNil, dCons, dTup, dLst, dCall, dCB, dMt, dMt0, dInC, dIxC, dChain, dNeg, dNoPart, dPart, dSl, exE, dIsA, dCat, catchD, subE, Ex.ix, endsD, dLc, dISeq, dIRng1, dIRng2, dIEnum, dFor, dDcT, dDcK, dCallV, mStarts_str, mIndex_str, mUpper_str, dSortSet, dListZip, dListRng, dDnew, dLc2, List.getElem?_cons_zero, List.getElem?_cons_succ, List.set_cons_zero, List.set_cons_succ, onL_lst, isA_non, isA_int_int, isA_bool_int, isA_str_int, isA_tup_int, isA_lst_int, isA_int_str, isA_bool_str, isA_str_str, isA_tup_str, isA_lst_str, isA_int_tup, isA_bool_tup, isA_str_tup, isA_tup_tup, isA_lst_tup, isA_int_bl, isA_bool_bl, isA_str_bl, isA_tup_bl, isA_lst_bl, dAdd_int, dAdd_str, dAdd_tup, dAdd_ref, dSub_int, dLt_int, dLe_int, dGt_int, dGe_int, dMul_int, dMul_str, dMul_ref, dMod_int, dFdiv_int, dPow_int, dIsN_, dNotN_, isNon_int, isNon_non, dEq_str, dEq_int, dNe_str, dNe_int, dIn_sign, dIx_str, dIx_tup, dIx_scr, dIx_ref, dCut_str, dCut_tup, dCut_scr, dCut_ref, bLen_str, bLen_tup, bLen_ref, bInt_int, bInt_bl, bTup_tup, bTup_ref, bList_str, bList_tup, bList_ref, tyD_str, mAppend_ref, mExtend_ref, tyL, dSetL_ref, mJoin_ref, bMin_ref, bMax_ref, atI_0, atI_1, atI_2]
    refine ⟨rfl, pl, hz, ?_⟩
    simp only [onB]
    refine ⟨fun h1 => ⟨h, Less.refl, q2 (by simpa using h1)⟩, fun h1 => fgt_here (q1 (by simpa using h1))⟩
/-! ### rules -/
abbrev kF : Tx := [102, 97, 100, 101, 100]
abbrev kO : Tx := [111, 112, 101, 110]
abbrev kC : Tx := [99, 108, 111, 115, 101, 100]
abbrev kD : Tx := [100, 111, 117, 98, 108, 101, 100]
def k_BOUNDS (z : Tx) : Option D := if z = kF then some (.int 3) else if z = kO then some (.int 3) else if z = kC then some (.int 3) else if z = kD then some (.int 2) else none
/-- is it a rule? (as far as is_rule can be asked: plain parts) -/
def isRule (t : D) : Bool := match t with
  | .tup [.str k, a, b] => (match k_BOUNDS k with
    | some (.int m) => within b 0 m && (match b with
      | .int m' => within a 0 m'
      | _ => false)
    | _ => false)
  | _ => false
theorem plain_ty {d : D} {h : DHp} (pl : Plain d h) : (∃ xs, d = .tup xs) ∨ isA .tup d h = some false := by
  obtain ⟨b, e⟩ := pl .tup
  cases d with
  | tup xs => exact .inl ⟨xs, rfl⟩
  | ref a => right; simp only [isA] at e ⊢; split at e <;> simp at e ⊢
  | ty n => cases e
  | fn n => cases e
  | _ => exact .inr rfl
theorem plain_str {d : D} {h : DHp} (pl : Plain d h) : (∃ x, d = .str x) ∨ isA .str d h = some false := by
  obtain ⟨b, e⟩ := pl .str
  cases d with
  | str x => exact .inl ⟨x, rfl⟩
  | ref a => right; simp only [isA] at e ⊢; split at e <;> simp at e ⊢
  | ty n => cases e
  | fn n => cases e
  | _ => exact .inr rfl
theorem isRule_no {t : D} (h : ∀ k a b, t ≠ .tup [.str k, a, b]) : isRule t = false := by
  unfold isRule
  split
  · rename_i k a b
    exact absurd rfl (h k a b)
  · rfl
theorem bounds_int (k : Tx) : k_BOUNDS k = none ∨ ∃ m, k_BOUNDS k = some (.int m) := by
  unfold k_BOUNDS
  split
  · exact .inr ⟨_, rfl⟩
  · split
    · exact .inr ⟨_, rfl⟩
    · split
      · exact .inr ⟨_, rfl⟩
      · split
        · exact .inr ⟨_, rfl⟩
        · exact .inl rfl
theorem within_int {t : D} {a b : Int} (e : within t a b = true) : ∃ i, t = .int i := by
  cases t with
  | int i => exact ⟨i, rfl⟩
  | _ => cases e
/-! ### tears -/
/-- a word torn at n, m signs -/
def tearW (k x : Tx) (n m : Nat) : Tx := x.take n ++ (if k = kF then List.replicate m 63 else if k = kO then [42] else if k = kC then [] else (x.drop n).take m ++ (x.drop n).take m) ++ x.drop (n + m)
theorem cut_take {x : Tx} {n : Nat} (h : n ≤ x.length) : cutD x none (some (n : Int)) = x.take n := by
  unfold cutD
  rw [HT.sIx_none, HT.sIx_nat, Nat.min_eq_left h]
  simp
theorem cut_drop {x : Tx} {n : Nat} (h : n ≤ x.length) : cutD x (some (n : Int)) none = x.drop n := by
  unfold cutD
  rw [HT.sIx_none, HT.sIx_nat, Nat.min_eq_left h]
  exact List.take_of_length_le (by rw [List.length_drop]; exact Nat.le_refl _)
theorem cut_mid {x : Tx} {n m : Nat} (h : n + m ≤ x.length) : cutD x (some (n : Int)) (some ((n + m : Nat) : Int)) = (x.drop n).take m := by
  unfold cutD
  rw [HT.sIx_nat, HT.sIx_nat, Nat.min_eq_left (show n ≤ x.length by omega), Nat.min_eq_left h]
  congr 1
  omega
theorem repD_one {α : Type} (m : Nat) (c : α) : repD m [c] = List.replicate m c := by
  unfold repD
  induction m with
  | zero => rfl
  | succ m ih => rw [List.replicate_succ, List.flatten_cons, ih]; rfl
abbrev SMALL : Tx := [97, 98, 99, 100, 101, 102, 103, 104, 105, 106, 107, 108, 109, 110, 111, 112, 113, 114, 115, 116, 117, 118, 119, 120, 121, 122]
/-- may m signs be torn at n? -/
def spot (n m : D) (x : Tx) (a b : Int) : Bool := within n 0 x.length && (within m a b && (match n, m with
  | .int i, .int j => decide (i + j ≤ x.length)
  | _, _ => false))
def natD (n : D) : Nat := match n with
  | .int i => i.toNat
  | _ => 0
theorem plain_i {i : Int} {h : DHp} : Plain (.int i) h := fun t => by cases t <;> exact ⟨_, rfl⟩
theorem plain_s {x : Tx} {h : DHp} : Plain (.str x) h := fun t => by cases t <;> exact ⟨_, rfl⟩
theorem plain_t {xs : List D} {h : DHp} : Plain (.tup xs) h := fun t => by cases t <;> exact ⟨_, rfl⟩
theorem plain_n {h : DHp} : Plain .non h := fun t => by cases t <;> exact ⟨_, rfl⟩
theorem plain_b {b : Bool} {h : DHp} : Plain (.bl b) h := fun t => by cases t <;> exact ⟨_, rfl⟩
theorem rule_parts {k : Tx} {a b : Int} {h : DHp} : ∀ xs, D.tup [.str k, .int a, .int b] = .tup xs → ∀ x ∈ xs, Plain x h := by
  rintro xs e x hx
  cases e
  simp only [List.mem_cons, List.mem_nil_iff, or_false] at hx
  rcases hx with rfl | rfl | rfl
  · exact plain_s
  · exact plain_i
  · exact plain_i
theorem isText_str {t : D} {l : Tx} (e : isText t l = true) : ∃ x, t = .str x ∧ x.length ≤ 200 ∧ madeOf x l = true := by
  cases t with
  | str x =>
    simp only [isText, Bool.and_eq_true, decide_eq_true_eq] at e
    exact ⟨x, rfl, e⟩
  | _ => cases e
theorem rule_lo {k : Tx} {a b : Int} (hr : isRule (.tup [.str k, .int a, .int b]) = true) : 0 ≤ a ∧ a ≤ b ∧ b ≤ 3 := by
  simp only [isRule] at hr
  have hb : ∀ m, k_BOUNDS k = some (.int m) → m ≤ 3 := by
    intro m e
    unfold k_BOUNDS at e
    split at e
    · cases e; omega
    · split at e
      · cases e; omega
      · split at e
        · cases e; omega
        · split at e
          · cases e; omega
          · cases e
  rcases bounds_int k with e | ⟨m, e⟩
  · simp [e] at hr
  · simp only [e, within, Bool.and_eq_true, decide_eq_true_eq] at hr
    have := hb m e
    omega
/-! ### in order -/
theorem forB_inv {g : MG} {t : MS} {DD : DEnds} {δ : DSt} {ds : List D} {ok : DHp → Prop} {h : DHp} (V : Nat → DSt → DHp → Prop) (v0 : V 0 δ h) (hok : ∀ i δ h, V i δ h → ok h) (hend : ∀ δ h, V ds.length δ h → DD.nx δ h)
    (step : ∀ i d δ h, ds[i]? = some d → V i δ h → g d δ h (fun δ2 h2 => t { DD with nx := V (i + 1), ct := V (i + 1), bk := DD.nx } δ2 h2)) : ForB g t DD δ ds ok h :=
  ⟨V, v0, fun i δ h v => ⟨hok i δ h v, fun e => hend δ h (e ▸ v), fun d hd => step i d δ h hd v⟩⟩
theorem patB_nm {i : Nat} {d : D} {δ : DSt} : patB (.nm i) d δ = some (δ.set i (some d)) := by simp [patB]
theorem less_put_put {h : DHp} {r q : Addr} {o u : DO} (nr : h r = none) (nq : put h r o q = none) : Less (put h q u) (put (put h r o) q u) := fun a x e => by
  by_cases z : a = q
  · subst z; rw [put_same] at e ⊢; exact e
  · rw [put_ne z] at e ⊢
    exact Less.put nr a x e
/-! ### readings -/
/-- all tears with sizes from a to b, as they come -/
def tearsN (k x : Tx) (m : Nat) : List Tx := (List.range (x.length + 1 - m)).map fun n => tearW k x n m
def tearsL (k x : Tx) (a n : Nat) : List Tx := ((List.range n).map fun i => tearsN k x (a + i)).flatten
theorem tearsL_succ (k x : Tx) (a n : Nat) : tearsL k x a (n + 1) = tearsL k x a n ++ tearsN k x (a + n) := by
  unfold tearsL
  rw [List.range_succ, List.map_append, List.flatten_append]
  simp
theorem tearW_len {k x : Tx} {n m : Nat} (h : n + m ≤ x.length) (h1 : 1 ≤ x.length ∨ True) : (tearW k x n m).length ≤ 2 * x.length + 1 := by
  unfold tearW
  split
  · simp <;> omega
  · split
    · simp <;> omega
    · split
      · simp <;> omega
      · simp <;> omega
theorem tearsL_len {k x : Tx} {a : Nat} : ∀ n, (tearsL k x a n).length ≤ n * (x.length + 1)
  | 0 => by simp [tearsL]
  | n + 1 => by
    rw [tearsL_succ, List.length_append]
    have := tearsL_len (k := k) (x := x) (a := a) n
    have h2 : (tearsN k x (a + n)).length ≤ x.length + 1 := by unfold tearsN; rw [List.length_map, List.length_range]; omega
    rw [Nat.succ_mul]
    omega
theorem tearsN_mem {k x : Tx} {m : Nat} {w : Tx} (h : w ∈ tearsN k x m) : ∃ n, n + m ≤ x.length ∧ w = tearW k x n m := by
  unfold tearsN at h
  obtain ⟨n, hn, e⟩ := List.mem_map.mp h
  have hn : n < x.length + 1 - m := by simpa using hn
  exact ⟨n, by omega, e.symm⟩
theorem tearsL_mem {k x : Tx} {a n : Nat} {w : Tx} (h : w ∈ tearsL k x a n) : ∃ i m, i < n ∧ m + (a + i) ≤ x.length ∧ w = tearW k x m (a + i) := by
  unfold tearsL at h
  rw [List.mem_flatten] at h
  obtain ⟨l, hl, hw⟩ := h
  obtain ⟨i, hi, e⟩ := List.mem_map.mp hl
  subst e
  obtain ⟨m, h1, h2⟩ := tearsN_mem hw
  exact ⟨i, m, by simpa using hi, h1, h2⟩
theorem tearsL_iff {k x : Tx} {a n : Nat} {w : Tx} : w ∈ tearsL k x a n ↔ ∃ i m, i < n ∧ m + (a + i) ≤ x.length ∧ w = tearW k x m (a + i) := by
  refine ⟨tearsL_mem, ?_⟩
  rintro ⟨i, m, h1, h2, rfl⟩
  unfold tearsL tearsN
  rw [List.mem_flatten]
  exact ⟨_, List.mem_map.mpr ⟨i, by simpa using h1, rfl⟩, List.mem_map.mpr ⟨m, by simp; omega, rfl⟩⟩
def readW (k x : Tx) (a b : Nat) : List Tx := inOrder (tearsL k x a (b + 1 - a))
/-! ### the law's own -/
def isKind (k : Tx) : Prop := k = kF ∨ k = kO ∨ k = kC ∨ k = kD
theorem rule_kind {k : Tx} {a b : D} (hr : isRule (.tup [.str k, a, b]) = true) : isKind k := by
  unfold isKind
  simp only [isRule] at hr
  unfold k_BOUNDS at hr
  by_cases h1 : k = kF
  · exact .inl h1
  · by_cases h2 : k = kO
    · exact .inr (.inl h2)
    · by_cases h3 : k = kC
      · exact .inr (.inr (.inl h3))
      · by_cases h4 : k = kD
        · exact .inr (.inr (.inr h4))
        · simp [h1, h2, h3, h4] at hr
theorem signs_join (x : Tx) : joinD [] (x.map fun c => [c]) = x := by
  rw [joinD_nil]
  induction x with
  | nil => rfl
  | cons c x ih => rw [List.map_cons, List.flatten_cons, ih]; rfl
theorem put_old {g : DHp} {p r : Addr} {o u : DO} (e : g p = some u) (n : g r = none) : put g r o p = some u := by
  rw [put_ne]
  · exact e
  · intro z; subst z; rw [n] at e; cases e
theorem map_signs (x : Tx) : (x.map fun c => D.str [c]) = (x.map fun c => [c]).map D.str := by rw [List.map_map]; rfl
theorem sum_signs (x : Tx) : ((x.map fun c => [c]).map List.length).sum = x.length := by
  rw [List.map_map]
  induction x with
  | nil => rfl
  | cons c x ih => rw [List.map_cons, List.sum_cons, ih]; simp; omega
end Tw

namespace Tw
open PySem PySem.Spec PyProof.Rows L2
/-- signs as Python has them -/
def okTx (x : Tx) : Prop := ∀ c ∈ x, c < 1114112
theorem shaped_s {x : Tx} (h : okTx x) : SeqAt.shaped (.str (tx x)) = true := by
  simp only [SeqAt.shaped, PyData.canLay0, PyData.strOk, PyData.depth, Bool.and_eq_true, decide_eq_true_eq]
  refine ⟨?_, rfl⟩
  rw [Array.all_eq_true]
  intro i hi
  have : (tx x).cps[i] ∈ x := by
    show x.toArray[i] ∈ x
    simp
  simpa using h _ this
theorem canL_all {ws : List Tx} (h : ∀ w ∈ ws, okTx w) : PyData.canLayAll0 (ws.map fun w => PyData.str (tx w)) = true := by
  induction ws with
  | nil => rfl
  | cons w ws ih =>
    rw [List.map_cons, PyData.canLayAll0, Bool.and_eq_true]
    have := shaped_s (h w (by simp))
    simp only [SeqAt.shaped, Bool.and_eq_true] at this
    exact ⟨this.1, ih fun v hv => h v (by simp [hv])⟩
theorem depth_all (ws : List Tx) : PyData.depthAll (ws.map fun w => PyData.str (tx w)) = 0 := by
  induction ws with
  | nil => rfl
  | cons w ws ih => rw [List.map_cons, PyData.depthAll, ih]; rfl
theorem shaped_l {ws : List Tx} (h : ∀ w ∈ ws, okTx w) : SeqAt.shaped (.list (ws.map fun w => PyData.str (tx w))) = true := by
  simp only [SeqAt.shaped, PyData.canLay0, PyData.depth, Bool.and_eq_true, decide_eq_true_eq]
  have e := depth_all ws
  exact ⟨canL_all h, by first | (rw [e]; decide) | (simp [e])⟩
theorem pya_strs {h : DHp} : ∀ ws : List Tx, PyA h (ws.map D.str) (ws.map fun w => PyData.str (tx w))
  | [] => .nil
  | w :: ws => .cons (.str w) (pya_strs ws)
theorem eqvAll_strs : ∀ ws vs : List Tx, PyData.eqvAll (ws.map fun w => PyData.str (tx w)) (vs.map fun w => PyData.str (tx w)) = decide (ws = vs)
  | [], [] => rfl
  | [], v :: vs => by simp [PyData.eqvAll]
  | w :: ws, [] => by simp [PyData.eqvAll]
  | w :: ws, v :: vs => by
    rw [List.map_cons, List.map_cons, PyData.eqvAll, eqvAll_strs ws vs]
    have e : PyData.eqv (.str (tx w)) (.str (tx v)) = decide (w = v) := by
      simp only [PyData.eqv]
      rw [Bool.eq_iff_iff, beq_iff_eq, decide_eq_true_eq]
      exact tx_inj
    rw [e]
    by_cases h1 : w = v <;> by_cases h2 : ws = vs <;> simp [h1, h2]
/-- == of lists of texts -/
theorem dEq_strs {h : DHp} {a b : Addr} {ws vs : List Tx} {K : DK} (ea : h a = some (.lst (ws.map D.str))) (eb : h b = some (.lst (vs.map D.str))) (h1 : ∀ w ∈ ws, okTx w) (h2 : ∀ w ∈ vs, okTx w) (k : K (.bl (decide (ws = vs))) h) : dEq (.ref a) (.ref b) h K :=
  ⟨_, _, .lst ea (pya_strs ws), .lst eb (pya_strs vs), shaped_l h1, shaped_l h2, by simp only [PyData.eqv]; rw [eqvAll_strs]; exact k⟩
theorem dNe_strs {h : DHp} {a b : Addr} {ws vs : List Tx} {K : DK} (ea : h a = some (.lst (ws.map D.str))) (eb : h b = some (.lst (vs.map D.str))) (h1 : ∀ w ∈ ws, okTx w) (h2 : ∀ w ∈ vs, okTx w) (k : K (.bl (!decide (ws = vs))) h) : dNe (.ref a) (.ref b) h K :=
  ⟨_, _, .lst ea (pya_strs ws), .lst eb (pya_strs vs), shaped_l h1, shaped_l h2, by simp only [PyData.eqv]; rw [eqvAll_strs]; exact k⟩
/-- an object of one's own is handed back -/
theorem fgt_own {Q : DK} {h g : DHp} {p : Addr} {o : DO} (l : Less h g) (e : g p = some o) (n : h p = none) (q : ∀ r, h r = none → Q (.ref r) (put h r o)) : Fgt Q (.ref p) g :=
  ⟨put h p o, fun a x ea => by
    by_cases z : a = p
    · subst z; rw [put_same] at ea; rw [e]; exact ea
    · rw [put_ne z] at ea; exact l a x ea, q p n⟩
theorem adj_snoc (ws : List (List Nat)) (x : List Nat) : adj (ws ++ [x]) = if (adj ws).getLast? = some x then adj ws else adj ws ++ [x] := by
  unfold adj
  rw [List.foldl_append]
  rfl
theorem adj_sub : ∀ (ws acc : List (List Nat)) (z : List Nat), z ∈ ws.foldl (fun a x => if a.getLast? = some x then a else a ++ [x]) acc → z ∈ acc ∨ z ∈ ws
  | [], _, _, h => .inl h
  | x :: ws, acc, z, h => by
    rw [List.foldl_cons] at h
    rcases adj_sub ws _ z h with q | q
    · split at q
      · exact .inl q
      · rcases List.mem_append.mp q with q | q
        · exact .inl q
        · simp at q; subst q; exact .inr (by simp)
    · exact .inr (by simp [q])
theorem adj_len : ∀ (ws acc : List (List Nat)), (ws.foldl (fun a x => if a.getLast? = some x then a else a ++ [x]) acc).length ≤ acc.length + ws.length
  | [], acc => Nat.le_refl _
  | x :: ws, acc => by
    rw [List.foldl_cons]
    refine Nat.le_trans (adj_len ws _) ?_
    split <;> simp <;> omega
theorem okTx_tear {k x : Tx} {n m : Nat} (h : okTx x) : okTx (tearW k x n m) := by
  intro c hc
  unfold tearW at hc
  rcases List.mem_append.mp hc with hc | hc
  · rcases List.mem_append.mp hc with hc | hc
    · exact h c (List.mem_of_mem_take hc)
    · split at hc
      · have := (List.mem_replicate.mp hc).2; omega
      · split at hc
        · simp at hc; omega
        · split at hc
          · cases hc
          · rcases List.mem_append.mp hc with hc | hc
            · exact h c (List.mem_of_mem_drop (List.mem_of_mem_take hc))
            · exact h c (List.mem_of_mem_drop (List.mem_of_mem_take hc))
  · exact h c (List.mem_of_mem_drop hc)
end Tw

namespace Tw
open PySem PySem.Spec PyProof.Rows L2
theorem fgt_own2 {Q : DK} {h g : DHp} {p u : Addr} {o w : DO} (l : Less h g) (e : g p = some o) (n : h p = none) (nu : g u = none) (q : ∀ u, put h p o u = none → Q (.ref u) (put (put h p o) u w)) : Fgt Q (.ref u) (put g u w) := by
  have l2 : Less (put h p o) g := fun a x ea => by
    by_cases z : a = p
    · subst z; rw [put_same] at ea; rw [e]; exact ea
    · rw [put_ne z] at ea; exact l a x ea
  exact ⟨put (put h p o) u w, less_both l2, q u (less_none l2 nu)⟩
theorem none_old {h : DHp} {p r : Addr} {o : DO} (n : put h p o r = none) : h r = none ∧ p ≠ r := by
  by_cases z : r = p
  · subst z; rw [put_same] at n; cases n
  · rw [put_ne z] at n; exact ⟨n, fun e => z e.symm⟩
theorem ixN_mod {n : Nat} (i : Int) (hn : 0 < n) : ∃ j, j < n ∧ ixN n (i % n) = some j ∧ i % n = j := by
  have h0 : 0 ≤ i % n := Int.emod_nonneg _ (by omega)
  have h1 : i % n < n := Int.emod_lt_of_pos _ (by omega)
  refine ⟨(i % n).toNat, by omega, ?_, by omega⟩
  unfold ixN
  rw [if_pos h0, if_pos h1]
def sp__law_open : SpD := fun ds h Q _ => match ds with
  | [.scr ns] => ns.length ≤ 1000 ∧ ∀ (xs : List Int) c p, h c = none → put h c (.lst (xs.map D.int)) p = none → Q (.ref p) (put (put h c (.lst (xs.map D.int))) p (.lst [.ref c, .int 0, .int 0]))
  | _ => False
/-- _law_open(script); slots: script 0, cells 1, k 2, cell 3 -/
def N__law_open : List Str := ["script", "cells", "k", "cell"]
def m__law_open : MS := dSeq (dAsg (dCB bList (dCons (dSl (dVar 0) (dNoPart) (dPart (dC (.int 12)))) (dNil))) (dName 1)) (dSeq (dFor (dIEnum (dCons (dSl (dVar 0) (dPart (dC (.int 12))) (dPart (dC (.int 63)))) (dNil))) (dgTup 2 (dgCons (dName 2) (dgCons (dName 3) (dgNil)))) (dSetI (dVar 1) (dOp dMod (dCB bInt (dCons (dVar 2) (dNil))) (dC (.int 12))) (dOp dAdd (dOp dIx (dVar 1) (dOp dMod (dCB bInt (dCons (dVar 2) (dNil))) (dC (.int 12)))) (dVar 3)) dSetL)) (dRet (dLst (dCons (dVar 1) (dCons (dC (.int 0)) (dCons (dC (.int 0)) (dNil)))))))
theorem st__law_open (a0 : D) : startD N__law_open [a0] = [some a0, none, none, none] := rfl
theorem ok__law_open (ds : List D) (h : DHp) (Q : DK) (E : DX) (hn : ds.length = 1) (q : sp__law_open ds h Q E) : m__law_open (endsD Q E) (startD N__law_open ds) h := by
  match ds, q with
  | [.scr ns], ⟨hl2, q⟩ =>
    have hs := sizeLine_eq
    simp only [m__law_open, st__law_open, forall_const, true_implies, false_implies, implies_true, and_true, true_and, reduceCtorEq, Bool.not_true, Bool.not_false, Bool.true_xor, Bool.false_xor, Option.some.injEq, exists_eq_left', put_same, onB_bl, dSeq, dNext, dBreak, dDrop, dRet, dRetN, dIfS, dName, dgNil, dgCons, dgTup, dAsg, dPar, dPar3, dSetI, dgSub, dRaise, dVar, dC, dOp, dTest, dAnd, dOr, dNot, dAndV, dOrV, dNotV, dIf, dNil, dCons, dTup, dLst, dCall, dCB, dMt, dMt0, dInC, dIxC, dChain, dNeg, dNoPart, dPart, dSl, exE, dIsA, dCat, catchD, subE, Ex.ix, endsD, dLc, dISeq, dIRng1, dIRng2, dIEnum, dFor, dDcT, dDcK, dCallV, mStarts_str, mIndex_str, mUpper_str, dSortSet, dListZip, dListRng, dDnew, dLc2, List.getElem?_cons_zero, List.getElem?_cons_succ, List.set_cons_zero, List.set_cons_succ, onL_lst, isA_non, isA_int_int, isA_bool_int, isA_str_int, isA_tup_int, isA_lst_int, isA_int_str, isA_bool_str, isA_str_str, isA_tup_str, isA_lst_str, isA_int_tup, isA_bool_tup, isA_str_tup, isA_tup_tup, isA_lst_tup, isA_int_bl, isA_bool_bl, isA_str_bl, isA_tup_bl, isA_lst_bl, dAdd_int, dAdd_str, dAdd_tup, dAdd_ref, dSub_int, dLt_int, dLe_int, dGt_int, dGe_int, dMul_int, dMul_str, dMul_ref, dMod_int, dFdiv_int, dPow_int, dIsN_, dNotN_, isNon_int, isNon_non, dEq_str, dEq_int, dNe_str, dNe_int, dIn_sign, dIx_str, dIx_tup, dIx_scr, dIx_ref, dCut_str, dCut_tup, dCut_scr, dCut_ref, bLen_str, bLen_tup, bLen_ref, bInt_int, bInt_bl, bTup_tup, bTup_ref, bList_str, bList_tup, bList_ref, tyD_str, mAppend_ref, mExtend_ref, tyL, dSetL_ref, mJoin_ref, bMin_ref, bMax_ref, atI_0, atI_1, atI_2]
    intro p0 n0 p n1 p2 n2
    have e0 : 12 ≤ ns.length → (cutD ns none (some 12)).length = 12 := fun hl => by
      unfold cutD
      rw [HT.sIx_none, show (12 : Int) = ((12 : Nat) : Int) from rfl, HT.sIx_nat, Nat.min_eq_left hl, List.length_take, List.length_drop]
      omega
    have e9 : ∀ v, v ∈ cutD ns (some 12) (some 63) → 12 ≤ ns.length := fun v hv => by
      unfold cutD at hv
      rw [show (12 : Int) = ((12 : Nat) : Int) from rfl, HT.sIx_nat] at hv
      have h1 := List.mem_of_mem_take hv
      have h2 : 0 < (ns.drop (min 12 ns.length)).length := List.length_pos_of_mem h1
      rw [List.length_drop] at h2
      omega
    generalize cutD ns none (some 12) = c0 at e0 n1 n2
    refine ⟨_, rfl, ?_⟩
    obtain ⟨n1', z1⟩ := none_old n1
    obtain ⟨n2a, z2⟩ := none_old n2
    refine forB_inv (fun i δ h' => (∃ s2 s3, δ = [some (.scr ns), some (.ref p), s2, s3]) ∧ Less h h' ∧ h' p2 = some (.lst ((cutD ns (some 12) (some 63)).map D.int)) ∧ ∃ xs : List Int, (12 ≤ ns.length → xs.length = 12) ∧ h' p = some (.lst (xs.map D.int)))
      ⟨⟨_, _, rfl⟩, less_new (less_new (less_new Less.refl n0) n1) n2, put_same, c0, e0, put_old put_same n2⟩ (fun _ _ _ v => v.2.2.1) ?_ ?_
    · rintro δ h' ⟨⟨s2, s3, rfl⟩, l, _, xs, ex, hp⟩
      simp only [forall_const, true_implies, false_implies, implies_true, and_true, true_and, reduceCtorEq, Bool.not_true, Bool.not_false, Bool.true_xor, Bool.false_xor, Option.some.injEq, exists_eq_left', put_same, onB_bl, dSeq, dNext, dBreak, dDrop, dRet, dRetN, dIfS, dName, dgNil, dgCons, dgTup, dAsg, dPar, dPar3, dSetI, dgSub, dRaise, dVar, dC, dOp, dTest, dAnd, dOr, dNot, dAndV, dOrV, dNotV, dIf, dNil, dCons, dTup, dLst, dCall, dCB, dMt, dMt0, dInC, dIxC, dChain, dNeg, dNoPart, dPart, dSl, exE, dIsA, dCat, catchD, subE, Ex.ix, endsD, dLc, dISeq, dIRng1, dIRng2, dIEnum, dFor, dDcT, dDcK, dCallV, mStarts_str, mIndex_str, mUpper_str, dSortSet, dListZip, dListRng, dDnew, dLc2, List.getElem?_cons_zero, List.getElem?_cons_succ, List.set_cons_zero, List.set_cons_succ, onL_lst, isA_non, isA_int_int, isA_bool_int, isA_str_int, isA_tup_int, isA_lst_int, isA_int_str, isA_bool_str, isA_str_str, isA_tup_str, isA_lst_str, isA_int_tup, isA_bool_tup, isA_str_tup, isA_tup_tup, isA_lst_tup, isA_int_bl, isA_bool_bl, isA_str_bl, isA_tup_bl, isA_lst_bl, dAdd_int, dAdd_str, dAdd_tup, dAdd_ref, dSub_int, dLt_int, dLe_int, dGt_int, dGe_int, dMul_int, dMul_str, dMul_ref, dMod_int, dFdiv_int, dPow_int, dIsN_, dNotN_, isNon_int, isNon_non, dEq_str, dEq_int, dNe_str, dNe_int, dIn_sign, dIx_str, dIx_tup, dIx_scr, dIx_ref, dCut_str, dCut_tup, dCut_scr, dCut_ref, bLen_str, bLen_tup, bLen_ref, bInt_int, bInt_bl, bTup_tup, bTup_ref, bList_str, bList_tup, bList_ref, tyD_str, mAppend_ref, mExtend_ref, tyL, dSetL_ref, mJoin_ref, bMin_ref, bMax_ref, atI_0, atI_1, atI_2]
      refine ⟨by show (3 : Nat) ≤ sizeLine; omega, fun u nu => ?_⟩
      exact fgt_own2 l hp n1' nu fun u nu => q xs p u n1' nu
    · rintro i d δ h' hd ⟨⟨s2, s3, rfl⟩, l, h2, xs, ex, hp⟩
      have hd' : ∃ v : Int, d = .tup [.int (i : Nat), .int v] ∧ 12 ≤ ns.length := by
        unfold enumD at hd
        rw [List.getElem?_mapIdx, List.getElem?_map, Option.map_map] at hd
        obtain ⟨v, hv, rfl⟩ := Option.map_eq_some_iff.mp hd
        exact ⟨v, rfl, e9 v (List.mem_of_getElem? hv)⟩
      obtain ⟨v, rfl, hlen⟩ := hd'
      have ex := ex hlen
      obtain ⟨j, hj, ej, e2⟩ := ixN_mod (n := 12) i (by omega)
      rw [← ex] at hj
      have e2 : (i : Int) % 12 = j := e2
      have ei : atI (xs.map D.int) ((i : Int) % 12) = some (.int xs[j]) := by
        rw [e2]
        exact atI_lt (by rw [List.getElem?_map, List.getElem?_eq_getElem hj]; rfl)
      show [D.int (i : Nat), D.int v].length = 2 ∧ _
      refine ⟨rfl, ?_⟩
      simp only [forall_const, true_implies, false_implies, implies_true, and_true, true_and, reduceCtorEq, Bool.not_true, Bool.not_false, Bool.true_xor, Bool.false_xor, Option.some.injEq, exists_eq_left', put_same, onB_bl, dSeq, dNext, dBreak, dDrop, dRet, dRetN, dIfS, dName, dgNil, dgCons, dgTup, dAsg, dPar, dPar3, dSetI, dgSub, dRaise, dVar, dC, dOp, dTest, dAnd, dOr, dNot, dAndV, dOrV, dNotV, dIf, dNil, dCons, dTup, dLst, dCall, dCB, dMt, dMt0, dInC, dIxC, dChain, dNeg, dNoPart, dPart, dSl, exE, dIsA, dCat, catchD, subE, Ex.ix, endsD, dLc, dISeq, dIRng1, dIRng2, dIEnum, dFor, dDcT, dDcK, dCallV, mStarts_str, mIndex_str, mUpper_str, dSortSet, dListZip, dListRng, dDnew, dLc2, List.getElem?_cons_zero, List.getElem?_cons_succ, List.set_cons_zero, List.set_cons_succ, onL_lst, isA_non, isA_int_int, isA_bool_int, isA_str_int, isA_tup_int, isA_lst_int, isA_int_str, isA_bool_str, isA_str_str, isA_tup_str, isA_lst_str, isA_int_tup, isA_bool_tup, isA_str_tup, isA_tup_tup, isA_lst_tup, isA_int_bl, isA_bool_bl, isA_str_bl, isA_tup_bl, isA_lst_bl, dAdd_int, dAdd_str, dAdd_tup, dAdd_ref, dSub_int, dLt_int, dLe_int, dGt_int, dGe_int, dMul_int, dMul_str, dMul_ref, dMod_int, dFdiv_int, dPow_int, dIsN_, dNotN_, isNon_int, isNon_non, dEq_str, dEq_int, dNe_str, dNe_int, dIn_sign, dIx_str, dIx_tup, dIx_scr, dIx_ref, dCut_str, dCut_tup, dCut_scr, dCut_ref, bLen_str, bLen_tup, bLen_ref, bInt_int, bInt_bl, bTup_tup, bTup_ref, bList_str, bList_tup, bList_ref, tyD_str, mAppend_ref, mExtend_ref, tyL, dSetL_ref, mJoin_ref, bMin_ref, bMax_ref, atI_0, atI_1, atI_2, hp]
      refine ⟨by decide, _, ei, ?_⟩
      simp only [forall_const, true_implies, false_implies, implies_true, and_true, true_and, reduceCtorEq, Bool.not_true, Bool.not_false, Bool.true_xor, Bool.false_xor, Option.some.injEq, exists_eq_left', put_same, onB_bl, dSeq, dNext, dBreak, dDrop, dRet, dRetN, dIfS, dName, dgNil, dgCons, dgTup, dAsg, dPar, dPar3, dSetI, dgSub, dRaise, dVar, dC, dOp, dTest, dAnd, dOr, dNot, dAndV, dOrV, dNotV, dIf, dNil, dCons, dTup, dLst, dCall, dCB, dMt, dMt0, dInC, dIxC, dChain, dNeg, dNoPart, dPart, dSl, exE, dIsA, dCat, catchD, subE, Ex.ix, endsD, dLc, dISeq, dIRng1, dIRng2, dIEnum, dFor, dDcT, dDcK, dCallV, mStarts_str, mIndex_str, mUpper_str, dSortSet, dListZip, dListRng, dDnew, dLc2, List.getElem?_cons_zero, List.getElem?_cons_succ, List.set_cons_zero, List.set_cons_succ, onL_lst, isA_non, isA_int_int, isA_bool_int, isA_str_int, isA_tup_int, isA_lst_int, isA_int_str, isA_bool_str, isA_str_str, isA_tup_str, isA_lst_str, isA_int_tup, isA_bool_tup, isA_str_tup, isA_tup_tup, isA_lst_tup, isA_int_bl, isA_bool_bl, isA_str_bl, isA_tup_bl, isA_lst_bl, dAdd_int, dAdd_str, dAdd_tup, dAdd_ref, dSub_int, dLt_int, dLe_int, dGt_int, dGe_int, dMul_int, dMul_str, dMul_ref, dMod_int, dFdiv_int, dPow_int, dIsN_, dNotN_, isNon_int, isNon_non, dEq_str, dEq_int, dNe_str, dNe_int, dIn_sign, dIx_str, dIx_tup, dIx_scr, dIx_ref, dCut_str, dCut_tup, dCut_scr, dCut_ref, bLen_str, bLen_tup, bLen_ref, bInt_int, bInt_bl, bTup_tup, bTup_ref, bList_str, bList_tup, bList_ref, tyD_str, mAppend_ref, mExtend_ref, tyL, dSetL_ref, mJoin_ref, bMin_ref, bMax_ref, atI_0, atI_1, atI_2, hp]
      refine ⟨by decide, j, by rw [List.length_map, ex]; exact ej, ⟨_, _, rfl⟩, less_upd l n1', by rw [put_ne (Ne.symm z2)]; exact h2, xs.set j (xs[j] + v), fun _ => by simp [ex], by simp [List.map_set]⟩
def PR1 : List D := [.int 2147483629, .int 2147483587, .int 2147483579, .int 2147483563, .int 2147483549, .int 2147483543, .int 2147483497, .int 2147483489]
def PR2 : List D := [.int 2147483477, .int 2147483423, .int 2147483399, .int 2147483353, .int 2147483323]
theorem prime_at (i : Int) : ∃ q : Int, atI (PR1 ++ PR2) (i % 13) = some (.int q) ∧ 0 < q ∧ q < 2147483648 := by
  have : i % 13 = 0 ∨ i % 13 = 1 ∨ i % 13 = 2 ∨ i % 13 = 3 ∨ i % 13 = 4 ∨ i % 13 = 5 ∨ i % 13 = 6 ∨ i % 13 = 7 ∨ i % 13 = 8 ∨ i % 13 = 9 ∨ i % 13 = 10 ∨ i % 13 = 11 ∨ i % 13 = 12 := by omega
  rcases this with e | e | e | e | e | e | e | e | e | e | e | e | e <;> rw [e] <;> exact ⟨_, rfl, by decide, by decide⟩
def sp__law_spread : SpD := fun ds h Q _ => match ds with
  | [.int c, .int k] => 0 ≤ k ∧ k ≤ 1000000 ∧ ∀ v : Int, Q (.int v) h
  | _ => False
/-- _law_spread(cell, k); slots: cell 0, k 1, primes 2, one 3, two 4, three 5 -/
def N__law_spread : List Str := ["cell", "k", "primes", "one", "two", "three"]
def m__law_spread : MS := dSeq (dIfS (dTest (dOp dGe (dVar 0) (dOp dPow (dC (.int 10)) (dC (.int 18))))) (dRet (dVar 0)) (dNext)) (dSeq (dAsg (dLst (dCons (dC (.int 2147483629)) (dCons (dC (.int 2147483587)) (dCons (dC (.int 2147483579)) (dCons (dC (.int 2147483563)) (dCons (dC (.int 2147483549)) (dCons (dC (.int 2147483543)) (dCons (dC (.int 2147483497)) (dCons (dC (.int 2147483489)) (dNil)))))))))) (dName 2)) (dSeq (dAsg (dOp dAdd (dVar 2) (dLst (dCons (dC (.int 2147483477)) (dCons (dC (.int 2147483423)) (dCons (dC (.int 2147483399)) (dCons (dC (.int 2147483353)) (dCons (dC (.int 2147483323)) (dNil)))))))) (dName 2)) (dSeq (dAsg (dOp dMul (dOp dMod (dCB bInt (dCons (dVar 0) (dNil))) (dC (.int 1000000007))) (dOp dAdd (dOp dMul (dC (.int 2)) (dVar 1)) (dC (.int 69069)))) (dName 3)) (dSeq (dAsg (dOp dMod (dCB bInt (dCons (dOp dPow (dOp dAdd (dOp dAdd (dVar 3) (dOp dMul (dVar 1) (dC (.int 40503)))) (dC (.int 977))) (dC (.int 3))) (dNil))) (dOp dIx (dVar 2) (dOp dMod (dCB bInt (dCons (dVar 1) (dNil))) (dC (.int 13))))) (dName 3)) (dSeq (dAsg (dOp dMod (dCB bInt (dCons (dOp dPow (dOp dAdd (dOp dAdd (dOp dMul (dVar 3) (dOp dAdd (dVar 1) (dC (.int 3)))) (dOp dMod (dCB bInt (dCons (dVar 0) (dNil))) (dC (.int 65537)))) (dC (.int 5))) (dC (.int 5))) (dNil))) (dOp dIx (dVar 2) (dOp dMod (dCB bInt (dCons (dOp dAdd (dVar 1) (dC (.int 5))) (dNil))) (dC (.int 13))))) (dName 4)) (dSeq (dAsg (dOp dMod (dCB bInt (dCons (dOp dPow (dOp dAdd (dOp dAdd (dVar 4) (dOp dMod (dCB bInt (dCons (dVar 3) (dNil))) (dC (.int 1009)))) (dVar 1)) (dC (.int 3))) (dNil))) (dOp dIx (dVar 2) (dOp dMod (dCB bInt (dCons (dOp dAdd (dVar 1) (dC (.int 7))) (dNil))) (dC (.int 13))))) (dName 5)) (dRet (dOp dAdd (dOp dMul (dOp dAdd (dOp dMul (dVar 3) (dC (.int 2147483647))) (dVar 4)) (dC (.int 2147483647))) (dVar 5)))))))))
theorem st__law_spread (a0 a1 : D) : startD N__law_spread [a0, a1] = [some a0, some a1, none, none, none, none] := rfl
theorem ok__law_spread (ds : List D) (h : DHp) (Q : DK) (E : DX) (hn : ds.length = 2) (q : sp__law_spread ds h Q E) : m__law_spread (endsD Q E) (startD N__law_spread ds) h := by
  match ds, q with
  | [.int c, .int k], ⟨k0, k1, q⟩ =>
    have hs := sizeLine_eq
    simp only [m__law_spread, st__law_spread, forall_const, true_implies, false_implies, implies_true, and_true, true_and, reduceCtorEq, Bool.not_true, Bool.not_false, Bool.true_xor, Bool.false_xor, Option.some.injEq, exists_eq_left', put_same, onB_bl, dSeq, dNext, dBreak, dDrop, dRet, dRetN, dIfS, dName, dgNil, dgCons, dgTup, dAsg, dPar, dPar3, dSetI, dgSub, dRaise, dVar, dC, dOp, dTest, dAnd, dOr, dNot, dAndV, dOrV, dNotV, dIf, dNil, dCons, dTup, dLst, dCall, dCB, dMt, dMt0, dInC, dIxC, dChain, dNeg, dNoPart, dPart, dSl, exE, dIsA, dCat, catchD, subE, Ex.ix, endsD, dLc, dISeq, dIRng1, dIRng2, dIEnum, dFor, dDcT, dDcK, dCallV, mStarts_str, mIndex_str, mUpper_str, dSortSet, dListZip, dListRng, dDnew, dLc2, List.getElem?_cons_zero, List.getElem?_cons_succ, List.set_cons_zero, List.set_cons_succ, onL_lst, isA_non, isA_int_int, isA_bool_int, isA_str_int, isA_tup_int, isA_lst_int, isA_int_str, isA_bool_str, isA_str_str, isA_tup_str, isA_lst_str, isA_int_tup, isA_bool_tup, isA_str_tup, isA_tup_tup, isA_lst_tup, isA_int_bl, isA_bool_bl, isA_str_bl, isA_tup_bl, isA_lst_bl, dAdd_int, dAdd_str, dAdd_tup, dAdd_ref, dSub_int, dLt_int, dLe_int, dGt_int, dGe_int, dMul_int, dMul_str, dMul_ref, dMod_int, dFdiv_int, dPow_int, dIsN_, dNotN_, isNon_int, isNon_non, dEq_str, dEq_int, dNe_str, dNe_int, dIn_sign, dIx_str, dIx_tup, dIx_scr, dIx_ref, dCut_str, dCut_tup, dCut_scr, dCut_ref, bLen_str, bLen_tup, bLen_ref, bInt_int, bInt_bl, bTup_tup, bTup_ref, bList_str, bList_tup, bList_ref, tyD_str, mAppend_ref, mExtend_ref, tyL, dSetL_ref, mJoin_ref, bMin_ref, bMax_ref, atI_0, atI_1, atI_2]
    generalize ea : ([.int 2147483629, .int 2147483587, .int 2147483579, .int 2147483563, .int 2147483549, .int 2147483543, .int 2147483497, .int 2147483489] : List D) = A
    generalize eb : ([.int 2147483477, .int 2147483423, .int 2147483399, .int 2147483353, .int 2147483323] : List D) = B
    have pa : ∀ i : Int, ∃ q : Int, atI (A ++ B) (i % 13) = some (.int q) ∧ 0 < q ∧ q < 2147483648 := by
      rw [← ea, ← eb]
      exact prime_at
    have la : A.length = 8 := by rw [← ea]; rfl
    have lb : B.length = 5 := by rw [← eb]; rfl
    clear ea eb
    refine ⟨by decide, fun _ => fgt_here (q c), fun _ => ⟨by omega, fun p np => ⟨by omega, fun p1 n1 => ?_⟩⟩⟩
    have ep := put_old (o := .lst B) (put_same (h := h) (a := p) (o := .lst A)) n1
    rw [ep, onL_lst]
    refine ⟨by omega, fun p2 n2 => ?_⟩
    have lg : Less h (put (put (put h p (.lst A)) p1 (.lst B)) p2 (.lst (A ++ B))) := less_new (less_new (less_new Less.refl np) n1) n2
    have eg : put (put (put h p (.lst A)) p1 (.lst B)) p2 (.lst (A ++ B)) p2 = some (.lst (A ++ B)) := put_same
    generalize put (put (put h p (.lst A)) p1 (.lst B)) p2 (.lst (A ++ B)) = g at lg eg
    have m0 : 0 ≤ c % 1000000007 := by omega
    have m1 : c % 1000000007 ≤ 1000000006 := by omega
    have m2 : 0 ≤ c % 1000000007 * (2 * k + 69069) := Int.mul_nonneg m0 (by omega)
    have m3 : c % 1000000007 * (2 * k + 69069) ≤ 1000000006 * 2069069 := Int.mul_le_mul m1 (by omega) (by omega) (by omega)
    obtain ⟨q1, e1, p1a, p1b⟩ := pa k
    refine ⟨by decide, .inl (by decide), .inl ⟨by omega, by omega⟩, .inr (by decide), ⟨by decide, by decide, by omega⟩, by decide, _, e1, ?_⟩
    simp only [forall_const, true_implies, false_implies, implies_true, and_true, true_and, reduceCtorEq, Bool.not_true, Bool.not_false, Bool.true_xor, Bool.false_xor, Option.some.injEq, exists_eq_left', put_same, onB_bl, dSeq, dNext, dBreak, dDrop, dRet, dRetN, dIfS, dName, dgNil, dgCons, dgTup, dAsg, dPar, dPar3, dSetI, dgSub, dRaise, dVar, dC, dOp, dTest, dAnd, dOr, dNot, dAndV, dOrV, dNotV, dIf, dNil, dCons, dTup, dLst, dCall, dCB, dMt, dMt0, dInC, dIxC, dChain, dNeg, dNoPart, dPart, dSl, exE, dIsA, dCat, catchD, subE, Ex.ix, endsD, dLc, dISeq, dIRng1, dIRng2, dIEnum, dFor, dDcT, dDcK, dCallV, mStarts_str, mIndex_str, mUpper_str, dSortSet, dListZip, dListRng, dDnew, dLc2, List.getElem?_cons_zero, List.getElem?_cons_succ, List.set_cons_zero, List.set_cons_succ, onL_lst, isA_non, isA_int_int, isA_bool_int, isA_str_int, isA_tup_int, isA_lst_int, isA_int_str, isA_bool_str, isA_str_str, isA_tup_str, isA_lst_str, isA_int_tup, isA_bool_tup, isA_str_tup, isA_tup_tup, isA_lst_tup, isA_int_bl, isA_bool_bl, isA_str_bl, isA_tup_bl, isA_lst_bl, dAdd_int, dAdd_str, dAdd_tup, dAdd_ref, dSub_int, dLt_int, dLe_int, dGt_int, dGe_int, dMul_int, dMul_str, dMul_ref, dMod_int, dFdiv_int, dPow_int, dIsN_, dNotN_, isNon_int, isNon_non, dEq_str, dEq_int, dNe_str, dNe_int, dIn_sign, dIx_str, dIx_tup, dIx_scr, dIx_ref, dCut_str, dCut_tup, dCut_scr, dCut_ref, bLen_str, bLen_tup, bLen_ref, bInt_int, bInt_bl, bTup_tup, bTup_ref, bList_str, bList_tup, bList_ref, tyD_str, mAppend_ref, mExtend_ref, tyL, dSetL_ref, mJoin_ref, bMin_ref, bMax_ref, atI_0, atI_1, atI_2, eg]
    generalize (c % 1000000007 * (2 * k + 69069) + k * 40503 + 977) ^ Int.toNat 3 = one
    have o0 : 0 ≤ one % q1 := Int.emod_nonneg _ (by omega)
    have o1 : one % q1 < q1 := Int.emod_lt_of_pos _ p1a
    generalize one % q1 = one at o0 o1
    have m4 : 0 ≤ one * (k + 3) := Int.mul_nonneg o0 (by omega)
    have m5 : one * (k + 3) ≤ 2147483647 * 1000003 := Int.mul_le_mul (by omega) (by omega) (by omega) (by omega)
    obtain ⟨q2, e2, p2a, p2b⟩ := pa (k + 5)
    refine ⟨p1a, .inl ⟨by omega, by omega⟩, by decide, ⟨by decide, by decide, by omega⟩, by decide, _, e2, ?_⟩
    simp only [forall_const, true_implies, false_implies, implies_true, and_true, true_and, reduceCtorEq, Bool.not_true, Bool.not_false, Bool.true_xor, Bool.false_xor, Option.some.injEq, exists_eq_left', put_same, onB_bl, dSeq, dNext, dBreak, dDrop, dRet, dRetN, dIfS, dName, dgNil, dgCons, dgTup, dAsg, dPar, dPar3, dSetI, dgSub, dRaise, dVar, dC, dOp, dTest, dAnd, dOr, dNot, dAndV, dOrV, dNotV, dIf, dNil, dCons, dTup, dLst, dCall, dCB, dMt, dMt0, dInC, dIxC, dChain, dNeg, dNoPart, dPart, dSl, exE, dIsA, dCat, catchD, subE, Ex.ix, endsD, dLc, dISeq, dIRng1, dIRng2, dIEnum, dFor, dDcT, dDcK, dCallV, mStarts_str, mIndex_str, mUpper_str, dSortSet, dListZip, dListRng, dDnew, dLc2, List.getElem?_cons_zero, List.getElem?_cons_succ, List.set_cons_zero, List.set_cons_succ, onL_lst, isA_non, isA_int_int, isA_bool_int, isA_str_int, isA_tup_int, isA_lst_int, isA_int_str, isA_bool_str, isA_str_str, isA_tup_str, isA_lst_str, isA_int_tup, isA_bool_tup, isA_str_tup, isA_tup_tup, isA_lst_tup, isA_int_bl, isA_bool_bl, isA_str_bl, isA_tup_bl, isA_lst_bl, dAdd_int, dAdd_str, dAdd_tup, dAdd_ref, dSub_int, dLt_int, dLe_int, dGt_int, dGe_int, dMul_int, dMul_str, dMul_ref, dMod_int, dFdiv_int, dPow_int, dIsN_, dNotN_, isNon_int, isNon_non, dEq_str, dEq_int, dNe_str, dNe_int, dIn_sign, dIx_str, dIx_tup, dIx_scr, dIx_ref, dCut_str, dCut_tup, dCut_scr, dCut_ref, bLen_str, bLen_tup, bLen_ref, bInt_int, bInt_bl, bTup_tup, bTup_ref, bList_str, bList_tup, bList_ref, tyD_str, mAppend_ref, mExtend_ref, tyL, dSetL_ref, mJoin_ref, bMin_ref, bMax_ref, atI_0, atI_1, atI_2, eg]
    generalize (one * (k + 3) + c % 65537 + 5) ^ Int.toNat 5 = two
    have t0 : 0 ≤ two % q2 := Int.emod_nonneg _ (by omega)
    have t1 : two % q2 < q2 := Int.emod_lt_of_pos _ p2a
    generalize two % q2 = two at t0 t1
    obtain ⟨q3, e3, p3a, p3b⟩ := pa (k + 7)
    refine ⟨p2a, by decide, ⟨by decide, by decide, by omega⟩, by decide, _, e3, ?_⟩
    simp only [forall_const, true_implies, false_implies, implies_true, and_true, true_and, reduceCtorEq, Bool.not_true, Bool.not_false, Bool.true_xor, Bool.false_xor, Option.some.injEq, exists_eq_left', put_same, onB_bl, dSeq, dNext, dBreak, dDrop, dRet, dRetN, dIfS, dName, dgNil, dgCons, dgTup, dAsg, dPar, dPar3, dSetI, dgSub, dRaise, dVar, dC, dOp, dTest, dAnd, dOr, dNot, dAndV, dOrV, dNotV, dIf, dNil, dCons, dTup, dLst, dCall, dCB, dMt, dMt0, dInC, dIxC, dChain, dNeg, dNoPart, dPart, dSl, exE, dIsA, dCat, catchD, subE, Ex.ix, endsD, dLc, dISeq, dIRng1, dIRng2, dIEnum, dFor, dDcT, dDcK, dCallV, mStarts_str, mIndex_str, mUpper_str, dSortSet, dListZip, dListRng, dDnew, dLc2, List.getElem?_cons_zero, List.getElem?_cons_succ, List.set_cons_zero, List.set_cons_succ, onL_lst, isA_non, isA_int_int, isA_bool_int, isA_str_int, isA_tup_int, isA_lst_int, isA_int_str, isA_bool_str, isA_str_str, isA_tup_str, isA_lst_str, isA_int_tup, isA_bool_tup, isA_str_tup, isA_tup_tup, isA_lst_tup, isA_int_bl, isA_bool_bl, isA_str_bl, isA_tup_bl, isA_lst_bl, dAdd_int, dAdd_str, dAdd_tup, dAdd_ref, dSub_int, dLt_int, dLe_int, dGt_int, dGe_int, dMul_int, dMul_str, dMul_ref, dMod_int, dFdiv_int, dPow_int, dIsN_, dNotN_, isNon_int, isNon_non, dEq_str, dEq_int, dNe_str, dNe_int, dIn_sign, dIx_str, dIx_tup, dIx_scr, dIx_ref, dCut_str, dCut_tup, dCut_scr, dCut_ref, bLen_str, bLen_tup, bLen_ref, bInt_int, bInt_bl, bTup_tup, bTup_ref, bList_str, bList_tup, bList_ref, tyD_str, mAppend_ref, mExtend_ref, tyL, dSetL_ref, mJoin_ref, bMin_ref, bMax_ref, atI_0, atI_1, atI_2]
    exact ⟨p3a, .inr (by decide), .inr (by decide), fgt_less lg (q _)⟩
/-! ### the pen -/
/-- a pen at p: its cells, its place below N, its number -/
def Pen (h : DHp) (p : Addr) (N : Int) : Prop := ∃ (c : Addr) (k v : Int) (ns : List Int), h p = some (.lst [.ref c, .int k, .int v]) ∧ h c = some (.lst (ns.map D.int)) ∧ 0 ≤ k ∧ k ≤ N
/-- the pen has gone on, by at most m places -/
def Moved (h : DHp) (p : Addr) (m : Int) (g : DHp) : Prop := ∃ (c : Addr) (k v k' v' : Int), h p = some (.lst [.ref c, .int k, .int v]) ∧ g = put h p (.lst [.ref c, .int k', .int v']) ∧ k ≤ k' ∧ k' ≤ k + m
def sp__law_take : SpD := fun ds h Q _ => match ds with
  | [.ref p, .int many] => Pen h p 999999 ∧ 0 < many ∧ many < 1073741824 ∧ ∀ n g, 0 ≤ n → n < many → Moved h p 1 g → Q (.int n) g
  | _ => False
/-- _law_take(pen, many); slots: pen 0, many 1, found 2, k 3, cell 4 -/
def N__law_take : List Str := ["pen", "many", "found", "k", "cell"]
def m__law_take : MS := dSeq (dIfS (dTest (dOp dLt (dOp dIx (dVar 0) (dC (.int 2))) (dVar 1))) (dSeq (dAsg (dOp dIx (dVar 0) (dC (.int 1))) (dName 3)) (dSeq (dAsg (dC (.int 0)) (dName 4)) (dSeq (dIfS (dTest (dOp dLt (dVar 3) (dCB bLen (dCons (dOp dIx (dVar 0) (dC (.int 0))) (dNil))))) (dAsg (dOp dIx (dOp dIx (dVar 0) (dC (.int 0))) (dVar 3)) (dName 4)) (dIfS (dTest (dOp dGt (dCB bLen (dCons (dOp dIx (dVar 0) (dC (.int 0))) (dNil))) (dC (.int 0)))) (dAsg (dOp dMod (dCB bInt (dCons (dOp dIx (dOp dIx (dVar 0) (dC (.int 0))) (dOp dMod (dCB bInt (dCons (dOp dAdd (dOp dMul (dVar 3) (dC (.int 5))) (dC (.int 3))) (dNil))) (dCB bLen (dCons (dOp dIx (dVar 0) (dC (.int 0))) (dNil))))) (dNil))) (dOp dAdd (dOp dPow (dC (.int 10)) (dC (.int 17))) (dVar 3))) (dName 4)) (dNext))) (dSeq (dSetI (dVar 0) (dC (.int 1)) (dOp dAdd (dVar 3) (dC (.int 1))) dSetL) (dSetI (dVar 0) (dC (.int 2)) (dCall 2 sp__law_spread (dCons (dVar 4) (dCons (dVar 3) (dNil)))) dSetL))))) (dNext)) (dSeq (dAsg (dOp dMod (dCB bInt (dCons (dOp dIx (dVar 0) (dC (.int 2))) (dNil))) (dVar 1)) (dName 2)) (dSeq (dSetI (dVar 0) (dC (.int 2)) (dOp dFdiv (dOp dIx (dVar 0) (dC (.int 2))) (dVar 1)) dSetL) (dRet (dVar 2))))
theorem st__law_take (a0 a1 : D) : startD N__law_take [a0, a1] = [some a0, some a1, none, none, none] := rfl
theorem ok__law_take (ds : List D) (h : DHp) (Q : DK) (E : DX) (hn : ds.length = 2) (q : sp__law_take ds h Q E) : m__law_take (endsD Q E) (startD N__law_take ds) h := by
  match ds, q with
  | [.ref p, .int many], ⟨⟨c, k, v, ns, hp, hc, k0, k1⟩, m0, m1, q⟩ =>
    have hs := sizeLine_eq
    have hcp : c ≠ p := fun z => by
      subst z
      rw [hp] at hc
      cases ns with
      | nil => simp at hc
      | cons n ns => simp at hc
    have mv : ∀ k' v' : Int, k ≤ k' → k' ≤ k + 1 → Moved h p 1 (put h p (.lst [.ref c, .int k', .int v'])) := fun k' v' h1 h2 => ⟨c, k, v, k', v', hp, rfl, h1, h2⟩
    have md : ∀ v' : Int, 0 ≤ v' % many ∧ v' % many < many := fun v' => ⟨Int.emod_nonneg _ (by omega), Int.emod_lt_of_pos _ m0⟩
    simp only [m__law_take, st__law_take, forall_const, true_implies, false_implies, implies_true, and_true, true_and, reduceCtorEq, Bool.not_true, Bool.not_false, Bool.true_xor, Bool.false_xor, Option.some.injEq, exists_eq_left', put_same, onB_bl, dSeq, dNext, dBreak, dDrop, dRet, dRetN, dIfS, dName, dgNil, dgCons, dgTup, dAsg, dPar, dPar3, dSetI, dgSub, dRaise, dVar, dC, dOp, dTest, dAnd, dOr, dNot, dAndV, dOrV, dNotV, dIf, dNil, dCons, dTup, dLst, dCall, dCB, dMt, dMt0, dInC, dIxC, dChain, dNeg, dNoPart, dPart, dSl, exE, dIsA, dCat, catchD, subE, Ex.ix, endsD, dLc, dISeq, dIRng1, dIRng2, dIEnum, dFor, dDcT, dDcK, dCallV, mStarts_str, mIndex_str, mUpper_str, dSortSet, dListZip, dListRng, dDnew, dLc2, List.getElem?_cons_zero, List.getElem?_cons_succ, List.set_cons_zero, List.set_cons_succ, onL_lst, isA_non, isA_int_int, isA_bool_int, isA_str_int, isA_tup_int, isA_lst_int, isA_int_str, isA_bool_str, isA_str_str, isA_tup_str, isA_lst_str, isA_int_tup, isA_bool_tup, isA_str_tup, isA_tup_tup, isA_lst_tup, isA_int_bl, isA_bool_bl, isA_str_bl, isA_tup_bl, isA_lst_bl, dAdd_int, dAdd_str, dAdd_tup, dAdd_ref, dSub_int, dLt_int, dLe_int, dGt_int, dGe_int, dMul_int, dMul_str, dMul_ref, dMod_int, dFdiv_int, dPow_int, dIsN_, dNotN_, isNon_int, isNon_non, dEq_str, dEq_int, dNe_str, dNe_int, dIn_sign, dIx_str, dIx_tup, dIx_scr, dIx_ref, dCut_str, dCut_tup, dCut_scr, dCut_ref, bLen_str, bLen_tup, bLen_ref, bInt_int, bInt_bl, bTup_tup, bTup_ref, bList_str, bList_tup, bList_ref, tyD_str, mAppend_ref, mExtend_ref, tyL, dSetL_ref, mJoin_ref, bMin_ref, bMax_ref, atI_0, atI_1, atI_2, hp, atI_0, atI_1, atI_2, hc, onL_lst, List.length_map]
    refine ⟨fun _ => ⟨fun hk => ?_, fun hk => ⟨fun hl => ?_, fun hl => ?_⟩⟩, fun _ => ⟨m0, ⟨m0, m1⟩, 2, rfl, fgt_here (q _ _ (md v).1 (md v).2 (mv _ _ (by omega) (by omega)))⟩⟩
    · have hk' : k < ns.length := by simpa using hk
      have hk2 : k.toNat < ns.length := by omega
      have e : atI (ns.map D.int) k = some (.int ns[k.toNat]) := by
        have e : (k.toNat : Int) = k := by omega
        have := atI_lt (l := ns.map D.int) (k := k.toNat) (v := .int ns[k.toNat]) (by rw [List.getElem?_map]; simp [hk2])
        rw [e] at this
        exact this
      refine ⟨_, e, 1, rfl, rfl, k0, by omega, fun v' => ?_⟩
      simp only [put_same, onL_lst, List.set, forall_const, true_implies, false_implies, implies_true, and_true, true_and, reduceCtorEq, Bool.not_true, Bool.not_false, Bool.true_xor, Bool.false_xor, Option.some.injEq, exists_eq_left', put_same, onB_bl, dSeq, dNext, dBreak, dDrop, dRet, dRetN, dIfS, dName, dgNil, dgCons, dgTup, dAsg, dPar, dPar3, dSetI, dgSub, dRaise, dVar, dC, dOp, dTest, dAnd, dOr, dNot, dAndV, dOrV, dNotV, dIf, dNil, dCons, dTup, dLst, dCall, dCB, dMt, dMt0, dInC, dIxC, dChain, dNeg, dNoPart, dPart, dSl, exE, dIsA, dCat, catchD, subE, Ex.ix, endsD, dLc, dISeq, dIRng1, dIRng2, dIEnum, dFor, dDcT, dDcK, dCallV, mStarts_str, mIndex_str, mUpper_str, dSortSet, dListZip, dListRng, dDnew, dLc2, List.getElem?_cons_zero, List.getElem?_cons_succ, List.set_cons_zero, List.set_cons_succ, onL_lst, isA_non, isA_int_int, isA_bool_int, isA_str_int, isA_tup_int, isA_lst_int, isA_int_str, isA_bool_str, isA_str_str, isA_tup_str, isA_lst_str, isA_int_tup, isA_bool_tup, isA_str_tup, isA_tup_tup, isA_lst_tup, isA_int_bl, isA_bool_bl, isA_str_bl, isA_tup_bl, isA_lst_bl, dAdd_int, dAdd_str, dAdd_tup, dAdd_ref, dSub_int, dLt_int, dLe_int, dGt_int, dGe_int, dMul_int, dMul_str, dMul_ref, dMod_int, dFdiv_int, dPow_int, dIsN_, dNotN_, isNon_int, isNon_non, dEq_str, dEq_int, dNe_str, dNe_int, dIn_sign, dIx_str, dIx_tup, dIx_scr, dIx_ref, dCut_str, dCut_tup, dCut_scr, dCut_ref, bLen_str, bLen_tup, bLen_ref, bInt_int, bInt_bl, bTup_tup, bTup_ref, bList_str, bList_tup, bList_ref, tyD_str, mAppend_ref, mExtend_ref, tyL, dSetL_ref, mJoin_ref, bMin_ref, bMax_ref, atI_0, atI_1, atI_2, put_put, atI_2]
      refine ⟨2, rfl, .int v', rfl, ?_⟩
      simp only [List.set, forall_const, true_implies, false_implies, implies_true, and_true, true_and, reduceCtorEq, Bool.not_true, Bool.not_false, Bool.true_xor, Bool.false_xor, Option.some.injEq, exists_eq_left', put_same, onB_bl, dSeq, dNext, dBreak, dDrop, dRet, dRetN, dIfS, dName, dgNil, dgCons, dgTup, dAsg, dPar, dPar3, dSetI, dgSub, dRaise, dVar, dC, dOp, dTest, dAnd, dOr, dNot, dAndV, dOrV, dNotV, dIf, dNil, dCons, dTup, dLst, dCall, dCB, dMt, dMt0, dInC, dIxC, dChain, dNeg, dNoPart, dPart, dSl, exE, dIsA, dCat, catchD, subE, Ex.ix, endsD, dLc, dISeq, dIRng1, dIRng2, dIEnum, dFor, dDcT, dDcK, dCallV, mStarts_str, mIndex_str, mUpper_str, dSortSet, dListZip, dListRng, dDnew, dLc2, List.getElem?_cons_zero, List.getElem?_cons_succ, List.set_cons_zero, List.set_cons_succ, onL_lst, isA_non, isA_int_int, isA_bool_int, isA_str_int, isA_tup_int, isA_lst_int, isA_int_str, isA_bool_str, isA_str_str, isA_tup_str, isA_lst_str, isA_int_tup, isA_bool_tup, isA_str_tup, isA_tup_tup, isA_lst_tup, isA_int_bl, isA_bool_bl, isA_str_bl, isA_tup_bl, isA_lst_bl, dAdd_int, dAdd_str, dAdd_tup, dAdd_ref, dSub_int, dLt_int, dLe_int, dGt_int, dGe_int, dMul_int, dMul_str, dMul_ref, dMod_int, dFdiv_int, dPow_int, dIsN_, dNotN_, isNon_int, isNon_non, dEq_str, dEq_int, dNe_str, dNe_int, dIn_sign, dIx_str, dIx_tup, dIx_scr, dIx_ref, dCut_str, dCut_tup, dCut_scr, dCut_ref, bLen_str, bLen_tup, bLen_ref, bInt_int, bInt_bl, bTup_tup, bTup_ref, bList_str, bList_tup, bList_ref, tyD_str, mAppend_ref, mExtend_ref, tyL, dSetL_ref, mJoin_ref, bMin_ref, bMax_ref, atI_0, atI_1, atI_2, put_same, put_put, onL_lst, atI_2]
      refine ⟨m0, ⟨m0, m1⟩, 2, rfl, fgt_here (q _ _ (md v').1 (md v').2 (mv _ _ (by omega) (by omega)))⟩
    · have hl' : 0 < ns.length := by simpa using hl
      obtain ⟨j, hj, _, e2⟩ := ixN_mod (k * 5 + 3) hl'
      have e : atI (ns.map D.int) ((k * 5 + 3) % ns.length) = some (.int ns[j]) := by
        rw [e2]
        exact atI_lt (by rw [List.getElem?_map]; simp [hj])
      refine ⟨.inl ⟨by omega, by omega⟩, by omega, _, e, ?_⟩
      simp only [forall_const, true_implies, false_implies, implies_true, and_true, true_and, reduceCtorEq, Bool.not_true, Bool.not_false, Bool.true_xor, Bool.false_xor, Option.some.injEq, exists_eq_left', put_same, onB_bl, dSeq, dNext, dBreak, dDrop, dRet, dRetN, dIfS, dName, dgNil, dgCons, dgTup, dAsg, dPar, dPar3, dSetI, dgSub, dRaise, dVar, dC, dOp, dTest, dAnd, dOr, dNot, dAndV, dOrV, dNotV, dIf, dNil, dCons, dTup, dLst, dCall, dCB, dMt, dMt0, dInC, dIxC, dChain, dNeg, dNoPart, dPart, dSl, exE, dIsA, dCat, catchD, subE, Ex.ix, endsD, dLc, dISeq, dIRng1, dIRng2, dIEnum, dFor, dDcT, dDcK, dCallV, mStarts_str, mIndex_str, mUpper_str, dSortSet, dListZip, dListRng, dDnew, dLc2, List.getElem?_cons_zero, List.getElem?_cons_succ, List.set_cons_zero, List.set_cons_succ, onL_lst, isA_non, isA_int_int, isA_bool_int, isA_str_int, isA_tup_int, isA_lst_int, isA_int_str, isA_bool_str, isA_str_str, isA_tup_str, isA_lst_str, isA_int_tup, isA_bool_tup, isA_str_tup, isA_tup_tup, isA_lst_tup, isA_int_bl, isA_bool_bl, isA_str_bl, isA_tup_bl, isA_lst_bl, dAdd_int, dAdd_str, dAdd_tup, dAdd_ref, dSub_int, dLt_int, dLe_int, dGt_int, dGe_int, dMul_int, dMul_str, dMul_ref, dMod_int, dFdiv_int, dPow_int, dIsN_, dNotN_, isNon_int, isNon_non, dEq_str, dEq_int, dNe_str, dNe_int, dIn_sign, dIx_str, dIx_tup, dIx_scr, dIx_ref, dCut_str, dCut_tup, dCut_scr, dCut_ref, bLen_str, bLen_tup, bLen_ref, bInt_int, bInt_bl, bTup_tup, bTup_ref, bList_str, bList_tup, bList_ref, tyD_str, mAppend_ref, mExtend_ref, tyL, dSetL_ref, mJoin_ref, bMin_ref, bMax_ref, atI_0, atI_1, atI_2, hp]
      refine ⟨by decide, by show 0 < (10 : Int) ^ 17 + k; omega, 1, rfl, rfl, k0, by omega, fun v' => ?_⟩
      simp only [put_same, onL_lst, List.set, forall_const, true_implies, false_implies, implies_true, and_true, true_and, reduceCtorEq, Bool.not_true, Bool.not_false, Bool.true_xor, Bool.false_xor, Option.some.injEq, exists_eq_left', put_same, onB_bl, dSeq, dNext, dBreak, dDrop, dRet, dRetN, dIfS, dName, dgNil, dgCons, dgTup, dAsg, dPar, dPar3, dSetI, dgSub, dRaise, dVar, dC, dOp, dTest, dAnd, dOr, dNot, dAndV, dOrV, dNotV, dIf, dNil, dCons, dTup, dLst, dCall, dCB, dMt, dMt0, dInC, dIxC, dChain, dNeg, dNoPart, dPart, dSl, exE, dIsA, dCat, catchD, subE, Ex.ix, endsD, dLc, dISeq, dIRng1, dIRng2, dIEnum, dFor, dDcT, dDcK, dCallV, mStarts_str, mIndex_str, mUpper_str, dSortSet, dListZip, dListRng, dDnew, dLc2, List.getElem?_cons_zero, List.getElem?_cons_succ, List.set_cons_zero, List.set_cons_succ, onL_lst, isA_non, isA_int_int, isA_bool_int, isA_str_int, isA_tup_int, isA_lst_int, isA_int_str, isA_bool_str, isA_str_str, isA_tup_str, isA_lst_str, isA_int_tup, isA_bool_tup, isA_str_tup, isA_tup_tup, isA_lst_tup, isA_int_bl, isA_bool_bl, isA_str_bl, isA_tup_bl, isA_lst_bl, dAdd_int, dAdd_str, dAdd_tup, dAdd_ref, dSub_int, dLt_int, dLe_int, dGt_int, dGe_int, dMul_int, dMul_str, dMul_ref, dMod_int, dFdiv_int, dPow_int, dIsN_, dNotN_, isNon_int, isNon_non, dEq_str, dEq_int, dNe_str, dNe_int, dIn_sign, dIx_str, dIx_tup, dIx_scr, dIx_ref, dCut_str, dCut_tup, dCut_scr, dCut_ref, bLen_str, bLen_tup, bLen_ref, bInt_int, bInt_bl, bTup_tup, bTup_ref, bList_str, bList_tup, bList_ref, tyD_str, mAppend_ref, mExtend_ref, tyL, dSetL_ref, mJoin_ref, bMin_ref, bMax_ref, atI_0, atI_1, atI_2, put_put, atI_2]
      refine ⟨2, rfl, .int v', rfl, ?_⟩
      simp only [List.set, forall_const, true_implies, false_implies, implies_true, and_true, true_and, reduceCtorEq, Bool.not_true, Bool.not_false, Bool.true_xor, Bool.false_xor, Option.some.injEq, exists_eq_left', put_same, onB_bl, dSeq, dNext, dBreak, dDrop, dRet, dRetN, dIfS, dName, dgNil, dgCons, dgTup, dAsg, dPar, dPar3, dSetI, dgSub, dRaise, dVar, dC, dOp, dTest, dAnd, dOr, dNot, dAndV, dOrV, dNotV, dIf, dNil, dCons, dTup, dLst, dCall, dCB, dMt, dMt0, dInC, dIxC, dChain, dNeg, dNoPart, dPart, dSl, exE, dIsA, dCat, catchD, subE, Ex.ix, endsD, dLc, dISeq, dIRng1, dIRng2, dIEnum, dFor, dDcT, dDcK, dCallV, mStarts_str, mIndex_str, mUpper_str, dSortSet, dListZip, dListRng, dDnew, dLc2, List.getElem?_cons_zero, List.getElem?_cons_succ, List.set_cons_zero, List.set_cons_succ, onL_lst, isA_non, isA_int_int, isA_bool_int, isA_str_int, isA_tup_int, isA_lst_int, isA_int_str, isA_bool_str, isA_str_str, isA_tup_str, isA_lst_str, isA_int_tup, isA_bool_tup, isA_str_tup, isA_tup_tup, isA_lst_tup, isA_int_bl, isA_bool_bl, isA_str_bl, isA_tup_bl, isA_lst_bl, dAdd_int, dAdd_str, dAdd_tup, dAdd_ref, dSub_int, dLt_int, dLe_int, dGt_int, dGe_int, dMul_int, dMul_str, dMul_ref, dMod_int, dFdiv_int, dPow_int, dIsN_, dNotN_, isNon_int, isNon_non, dEq_str, dEq_int, dNe_str, dNe_int, dIn_sign, dIx_str, dIx_tup, dIx_scr, dIx_ref, dCut_str, dCut_tup, dCut_scr, dCut_ref, bLen_str, bLen_tup, bLen_ref, bInt_int, bInt_bl, bTup_tup, bTup_ref, bList_str, bList_tup, bList_ref, tyD_str, mAppend_ref, mExtend_ref, tyL, dSetL_ref, mJoin_ref, bMin_ref, bMax_ref, atI_0, atI_1, atI_2, put_same, put_put, onL_lst, atI_2]
      refine ⟨m0, ⟨m0, m1⟩, 2, rfl, fgt_here (q _ _ (md v').1 (md v').2 (mv _ _ (by omega) (by omega)))⟩
    · refine ⟨1, rfl, rfl, k0, by omega, fun v' => ?_⟩
      simp only [put_same, onL_lst, List.set, forall_const, true_implies, false_implies, implies_true, and_true, true_and, reduceCtorEq, Bool.not_true, Bool.not_false, Bool.true_xor, Bool.false_xor, Option.some.injEq, exists_eq_left', put_same, onB_bl, dSeq, dNext, dBreak, dDrop, dRet, dRetN, dIfS, dName, dgNil, dgCons, dgTup, dAsg, dPar, dPar3, dSetI, dgSub, dRaise, dVar, dC, dOp, dTest, dAnd, dOr, dNot, dAndV, dOrV, dNotV, dIf, dNil, dCons, dTup, dLst, dCall, dCB, dMt, dMt0, dInC, dIxC, dChain, dNeg, dNoPart, dPart, dSl, exE, dIsA, dCat, catchD, subE, Ex.ix, endsD, dLc, dISeq, dIRng1, dIRng2, dIEnum, dFor, dDcT, dDcK, dCallV, mStarts_str, mIndex_str, mUpper_str, dSortSet, dListZip, dListRng, dDnew, dLc2, List.getElem?_cons_zero, List.getElem?_cons_succ, List.set_cons_zero, List.set_cons_succ, onL_lst, isA_non, isA_int_int, isA_bool_int, isA_str_int, isA_tup_int, isA_lst_int, isA_int_str, isA_bool_str, isA_str_str, isA_tup_str, isA_lst_str, isA_int_tup, isA_bool_tup, isA_str_tup, isA_tup_tup, isA_lst_tup, isA_int_bl, isA_bool_bl, isA_str_bl, isA_tup_bl, isA_lst_bl, dAdd_int, dAdd_str, dAdd_tup, dAdd_ref, dSub_int, dLt_int, dLe_int, dGt_int, dGe_int, dMul_int, dMul_str, dMul_ref, dMod_int, dFdiv_int, dPow_int, dIsN_, dNotN_, isNon_int, isNon_non, dEq_str, dEq_int, dNe_str, dNe_int, dIn_sign, dIx_str, dIx_tup, dIx_scr, dIx_ref, dCut_str, dCut_tup, dCut_scr, dCut_ref, bLen_str, bLen_tup, bLen_ref, bInt_int, bInt_bl, bTup_tup, bTup_ref, bList_str, bList_tup, bList_ref, tyD_str, mAppend_ref, mExtend_ref, tyL, dSetL_ref, mJoin_ref, bMin_ref, bMax_ref, atI_0, atI_1, atI_2, put_put, atI_2]
      refine ⟨2, rfl, .int v', rfl, ?_⟩
      simp only [List.set, forall_const, true_implies, false_implies, implies_true, and_true, true_and, reduceCtorEq, Bool.not_true, Bool.not_false, Bool.true_xor, Bool.false_xor, Option.some.injEq, exists_eq_left', put_same, onB_bl, dSeq, dNext, dBreak, dDrop, dRet, dRetN, dIfS, dName, dgNil, dgCons, dgTup, dAsg, dPar, dPar3, dSetI, dgSub, dRaise, dVar, dC, dOp, dTest, dAnd, dOr, dNot, dAndV, dOrV, dNotV, dIf, dNil, dCons, dTup, dLst, dCall, dCB, dMt, dMt0, dInC, dIxC, dChain, dNeg, dNoPart, dPart, dSl, exE, dIsA, dCat, catchD, subE, Ex.ix, endsD, dLc, dISeq, dIRng1, dIRng2, dIEnum, dFor, dDcT, dDcK, dCallV, mStarts_str, mIndex_str, mUpper_str, dSortSet, dListZip, dListRng, dDnew, dLc2, List.getElem?_cons_zero, List.getElem?_cons_succ, List.set_cons_zero, List.set_cons_succ, onL_lst, isA_non, isA_int_int, isA_bool_int, isA_str_int, isA_tup_int, isA_lst_int, isA_int_str, isA_bool_str, isA_str_str, isA_tup_str, isA_lst_str, isA_int_tup, isA_bool_tup, isA_str_tup, isA_tup_tup, isA_lst_tup, isA_int_bl, isA_bool_bl, isA_str_bl, isA_tup_bl, isA_lst_bl, dAdd_int, dAdd_str, dAdd_tup, dAdd_ref, dSub_int, dLt_int, dLe_int, dGt_int, dGe_int, dMul_int, dMul_str, dMul_ref, dMod_int, dFdiv_int, dPow_int, dIsN_, dNotN_, isNon_int, isNon_non, dEq_str, dEq_int, dNe_str, dNe_int, dIn_sign, dIx_str, dIx_tup, dIx_scr, dIx_ref, dCut_str, dCut_tup, dCut_scr, dCut_ref, bLen_str, bLen_tup, bLen_ref, bInt_int, bInt_bl, bTup_tup, bTup_ref, bList_str, bList_tup, bList_ref, tyD_str, mAppend_ref, mExtend_ref, tyL, dSetL_ref, mJoin_ref, bMin_ref, bMax_ref, atI_0, atI_1, atI_2, put_same, put_put, onL_lst, atI_2]
      refine ⟨m0, ⟨m0, m1⟩, 2, rfl, fgt_here (q _ _ (md v').1 (md v').2 (mv _ _ (by omega) (by omega)))⟩
end Tw

namespace Tw
open PySem PySem.Spec PyProof.Rows L2
/-- the pen has gone on by at most m places, and new objects lie beside it -/
def Mv (h : DHp) (p : Addr) (m : Int) (g : DHp) : Prop := ∃ (c : Addr) (k v k' v' : Int), h p = some (.lst [.ref c, .int k, .int v]) ∧ k ≤ k' ∧ k' ≤ k + m ∧ Less (put h p (.lst [.ref c, .int k', .int v'])) g
theorem put_self {h : DHp} {p : Addr} {o : DO} (e : h p = some o) : put h p o = h := by
  funext a
  by_cases z : a = p
  · subst z; rw [put_same, e]
  · rw [put_ne z]
theorem mv_refl {h : DHp} {p : Addr} {N : Int} (P : Pen h p N) : Mv h p 0 h := by
  obtain ⟨c, k, v, ns, hp, _, _, _⟩ := P
  exact ⟨c, k, v, k, v, hp, by omega, by omega, by rw [put_self hp]; exact Less.refl⟩
theorem mv_new {h g : DHp} {p r : Addr} {m : Int} {o : DO} (M : Mv h p m g) (n : g r = none) : Mv h p m (put g r o) := by
  obtain ⟨c, k, v, k', v', hp, h1, h2, l⟩ := M
  exact ⟨c, k, v, k', v', hp, h1, h2, less_new l n⟩
theorem mv_upd {h g : DHp} {p r : Addr} {m : Int} {o : DO} (M : Mv h p m g) (n : h r = none) : Mv h p m (put g r o) := by
  obtain ⟨c, k, v, k', v', hp, h1, h2, l⟩ := M
  refine ⟨c, k, v, k', v', hp, h1, h2, less_upd l ?_⟩
  rw [put_ne]
  · exact n
  · intro z; subst z; rw [hp] at n; cases n
theorem mv_moved {h g g' : DHp} {p : Addr} {m m' : Int} (M : Mv h p m g) (M' : Moved g p m' g') : Mv h p (m + m') g' := by
  obtain ⟨c, k, v, k', v', hp, h1, h2, l⟩ := M
  obtain ⟨c2, k2, v2, k3, v3, gp, rfl, h3, h4⟩ := M'
  have e := l p _ put_same
  rw [e] at gp
  cases gp
  refine ⟨c, k, v, k3, v3, hp, by omega, by omega, ?_⟩
  intro a x ea
  by_cases z : a = p
  · subst z; rw [put_same] at ea ⊢; exact ea
  · rw [put_ne z] at ea ⊢
    exact l a x (by rw [put_ne z]; exact ea)
theorem mv_le {h g : DHp} {p : Addr} {m m' : Int} (M : Mv h p m g) (e : m ≤ m') : Mv h p m' g := by
  obtain ⟨c, k, v, k', v', hp, h1, h2, l⟩ := M
  exact ⟨c, k, v, k', v', hp, h1, by omega, l⟩
theorem mv_pen {h g : DHp} {p : Addr} {m N : Int} (P : Pen h p N) (M : Mv h p m g) : Pen g p (N + m) := by
  obtain ⟨c, k, v, k', v', hp, h1, h2, l⟩ := M
  obtain ⟨c2, k2, v2, ns, hp2, hc, h3, h4⟩ := P
  rw [hp] at hp2
  cases hp2
  refine ⟨c, k', v', ns, l p _ put_same, l c _ ?_, by omega, by omega⟩
  rw [put_ne]
  · exact hc
  · intro z
    subst z
    rw [hp] at hc
    cases ns with
    | nil => simp at hc
    | cons n ns => simp at hc
theorem mv_end {Q : DK} {h g : DHp} {p : Addr} {m : Int} {d : D} (M : Mv h p m g) (q : ∀ g', Moved h p m g' → Q d g') : Fgt Q d g := by
  obtain ⟨c, k, v, k', v', hp, h1, h2, l⟩ := M
  exact fgt_less l (q _ ⟨c, k, v, k', v', hp, rfl, h1, h2⟩)
theorem pen_le {h : DHp} {p : Addr} {N N' : Int} (P : Pen h p N) (e : N ≤ N') : Pen h p N' := by
  obtain ⟨c, k, v, ns, hp, hc, h1, h2⟩ := P
  exact ⟨c, k, v, ns, hp, hc, h1, by omega⟩
theorem pen_new {h : DHp} {p r : Addr} {N : Int} (P : Pen h p N) (n : h r = none) : p ≠ r := by
  obtain ⟨c, k, v, ns, hp, hc, h1, h2⟩ := P
  intro z
  subst z
  rw [hp] at n
  cases n
theorem moved_old {h g : DHp} {p a : Addr} {m : Int} {o : DO} (M : Moved h p m g) (e : h a = some o) (n : a ≠ p) : g a = some o := by
  obtain ⟨c, k, v, k', v', hp, rfl, h1, h2⟩ := M
  rw [put_ne n]
  exact e
theorem moved_none {h g : DHp} {p a : Addr} {m : Int} (M : Moved h p m g) (e : h a = none) : g a = none := by
  obtain ⟨c, k, v, k', v', hp, rfl, h1, h2⟩ := M
  rw [put_ne]
  · exact e
  · intro z; subst z; rw [hp] at e; cases e
def sp__law_one_of : SpD := fun ds h Q _ => match ds with
  | [.ref p, .str x] => Pen h p 999999 ∧ x ≠ [] ∧ x.length ≤ 10000 ∧ ∀ c g, c ∈ x → Moved h p 1 g → Q (.str [c]) g
  | [.ref p, .ref a] => a ≠ p ∧ ∃ ds, h a = some (.lst ds) ∧ Pen h p 999999 ∧ ds ≠ [] ∧ ds.length ≤ 10000 ∧ ∀ d g, d ∈ ds → Moved h p 1 g → Q d g
  | _ => False
/-- _law_one_of(pen, some); slots: pen 0, some 1 -/
def N__law_one_of : List Str := ["pen", "some"]
def m__law_one_of : MS := dRet (dOp dIx (dVar 1) (dCall 2 sp__law_take (dCons (dVar 0) (dCons (dCB bLen (dCons (dVar 1) (dNil))) (dNil)))))
theorem st__law_one_of (a0 a1 : D) : startD N__law_one_of [a0, a1] = [some a0, some a1] := rfl
theorem nat_in {n : Int} {l : Nat} (h0 : 0 ≤ n) (h1 : n < l) : ∃ j : Nat, j < l ∧ n = j := ⟨n.toNat, by omega, by omega⟩
theorem ok__law_one_of (ds : List D) (h : DHp) (Q : DK) (E : DX) (hn : ds.length = 2) (q : sp__law_one_of ds h Q E) : m__law_one_of (endsD Q E) (startD N__law_one_of ds) h := by
  have hs := sizeLine_eq
  match ds, q with
  | [.ref p, .str x], ⟨P, hx, hl, q⟩ =>
    have hx' : 0 < x.length := List.length_pos_iff.mpr hx
    simp only [m__law_one_of, st__law_one_of, forall_const, true_implies, false_implies, implies_true, and_true, true_and, reduceCtorEq, Bool.not_true, Bool.not_false, Bool.true_xor, Bool.false_xor, Option.some.injEq, exists_eq_left', put_same, onB_bl, dSeq, dNext, dBreak, dDrop, dRet, dRetN, dIfS, dName, dgNil, dgCons, dgTup, dAsg, dPar, dPar3, dSetI, dgSub, dRaise, dVar, dC, dOp, dTest, dAnd, dOr, dNot, dAndV, dOrV, dNotV, dIf, dNil, dCons, dTup, dLst, dCall, dCB, dMt, dMt0, dInC, dIxC, dChain, dNeg, dNoPart, dPart, dSl, exE, dIsA, dCat, catchD, subE, Ex.ix, endsD, dLc, dISeq, dIRng1, dIRng2, dIEnum, dFor, dDcT, dDcK, dCallV, mStarts_str, mIndex_str, mUpper_str, dSortSet, dListZip, dListRng, dDnew, dLc2, List.getElem?_cons_zero, List.getElem?_cons_succ, List.set_cons_zero, List.set_cons_succ, onL_lst, isA_non, isA_int_int, isA_bool_int, isA_str_int, isA_tup_int, isA_lst_int, isA_int_str, isA_bool_str, isA_str_str, isA_tup_str, isA_lst_str, isA_int_tup, isA_bool_tup, isA_str_tup, isA_tup_tup, isA_lst_tup, isA_int_bl, isA_bool_bl, isA_str_bl, isA_tup_bl, isA_lst_bl, dAdd_int, dAdd_str, dAdd_tup, dAdd_ref, dSub_int, dLt_int, dLe_int, dGt_int, dGe_int, dMul_int, dMul_str, dMul_ref, dMod_int, dFdiv_int, dPow_int, dIsN_, dNotN_, isNon_int, isNon_non, dEq_str, dEq_int, dNe_str, dNe_int, dIn_sign, dIx_str, dIx_tup, dIx_scr, dIx_ref, dCut_str, dCut_tup, dCut_scr, dCut_ref, bLen_str, bLen_tup, bLen_ref, bInt_int, bInt_bl, bTup_tup, bTup_ref, bList_str, bList_tup, bList_ref, tyD_str, mAppend_ref, mExtend_ref, tyL, dSetL_ref, mJoin_ref, bMin_ref, bMax_ref, atI_0, atI_1, atI_2]
    refine ⟨by omega, rfl, P, by omega, by omega, fun n g h0 h1 M => ?_⟩
    obtain ⟨j, hj, rfl⟩ := nat_in h0 h1
    simp only [forall_const, true_implies, false_implies, implies_true, and_true, true_and, reduceCtorEq, Bool.not_true, Bool.not_false, Bool.true_xor, Bool.false_xor, Option.some.injEq, exists_eq_left', put_same, onB_bl, dSeq, dNext, dBreak, dDrop, dRet, dRetN, dIfS, dName, dgNil, dgCons, dgTup, dAsg, dPar, dPar3, dSetI, dgSub, dRaise, dVar, dC, dOp, dTest, dAnd, dOr, dNot, dAndV, dOrV, dNotV, dIf, dNil, dCons, dTup, dLst, dCall, dCB, dMt, dMt0, dInC, dIxC, dChain, dNeg, dNoPart, dPart, dSl, exE, dIsA, dCat, catchD, subE, Ex.ix, endsD, dLc, dISeq, dIRng1, dIRng2, dIEnum, dFor, dDcT, dDcK, dCallV, mStarts_str, mIndex_str, mUpper_str, dSortSet, dListZip, dListRng, dDnew, dLc2, List.getElem?_cons_zero, List.getElem?_cons_succ, List.set_cons_zero, List.set_cons_succ, onL_lst, isA_non, isA_int_int, isA_bool_int, isA_str_int, isA_tup_int, isA_lst_int, isA_int_str, isA_bool_str, isA_str_str, isA_tup_str, isA_lst_str, isA_int_tup, isA_bool_tup, isA_str_tup, isA_tup_tup, isA_lst_tup, isA_int_bl, isA_bool_bl, isA_str_bl, isA_tup_bl, isA_lst_bl, dAdd_int, dAdd_str, dAdd_tup, dAdd_ref, dSub_int, dLt_int, dLe_int, dGt_int, dGe_int, dMul_int, dMul_str, dMul_ref, dMod_int, dFdiv_int, dPow_int, dIsN_, dNotN_, isNon_int, isNon_non, dEq_str, dEq_int, dNe_str, dNe_int, dIn_sign, dIx_str, dIx_tup, dIx_scr, dIx_ref, dCut_str, dCut_tup, dCut_scr, dCut_ref, bLen_str, bLen_tup, bLen_ref, bInt_int, bInt_bl, bTup_tup, bTup_ref, bList_str, bList_tup, bList_ref, tyD_str, mAppend_ref, mExtend_ref, tyL, dSetL_ref, mJoin_ref, bMin_ref, bMax_ref, atI_0, atI_1, atI_2]
    exact ⟨by omega, x[j], atI_lt (List.getElem?_eq_getElem hj), fgt_here (q _ _ (List.getElem_mem hj) M)⟩
  | [.ref p, .ref a], ⟨ha, ds, ea, P, hx, hl, q⟩ =>
    have hx' : 0 < ds.length := List.length_pos_iff.mpr hx
    simp only [m__law_one_of, st__law_one_of, forall_const, true_implies, false_implies, implies_true, and_true, true_and, reduceCtorEq, Bool.not_true, Bool.not_false, Bool.true_xor, Bool.false_xor, Option.some.injEq, exists_eq_left', put_same, onB_bl, dSeq, dNext, dBreak, dDrop, dRet, dRetN, dIfS, dName, dgNil, dgCons, dgTup, dAsg, dPar, dPar3, dSetI, dgSub, dRaise, dVar, dC, dOp, dTest, dAnd, dOr, dNot, dAndV, dOrV, dNotV, dIf, dNil, dCons, dTup, dLst, dCall, dCB, dMt, dMt0, dInC, dIxC, dChain, dNeg, dNoPart, dPart, dSl, exE, dIsA, dCat, catchD, subE, Ex.ix, endsD, dLc, dISeq, dIRng1, dIRng2, dIEnum, dFor, dDcT, dDcK, dCallV, mStarts_str, mIndex_str, mUpper_str, dSortSet, dListZip, dListRng, dDnew, dLc2, List.getElem?_cons_zero, List.getElem?_cons_succ, List.set_cons_zero, List.set_cons_succ, onL_lst, isA_non, isA_int_int, isA_bool_int, isA_str_int, isA_tup_int, isA_lst_int, isA_int_str, isA_bool_str, isA_str_str, isA_tup_str, isA_lst_str, isA_int_tup, isA_bool_tup, isA_str_tup, isA_tup_tup, isA_lst_tup, isA_int_bl, isA_bool_bl, isA_str_bl, isA_tup_bl, isA_lst_bl, dAdd_int, dAdd_str, dAdd_tup, dAdd_ref, dSub_int, dLt_int, dLe_int, dGt_int, dGe_int, dMul_int, dMul_str, dMul_ref, dMod_int, dFdiv_int, dPow_int, dIsN_, dNotN_, isNon_int, isNon_non, dEq_str, dEq_int, dNe_str, dNe_int, dIn_sign, dIx_str, dIx_tup, dIx_scr, dIx_ref, dCut_str, dCut_tup, dCut_scr, dCut_ref, bLen_str, bLen_tup, bLen_ref, bInt_int, bInt_bl, bTup_tup, bTup_ref, bList_str, bList_tup, bList_ref, tyD_str, mAppend_ref, mExtend_ref, tyL, dSetL_ref, mJoin_ref, bMin_ref, bMax_ref, atI_0, atI_1, atI_2, ea]
    refine ⟨rfl, P, by omega, by omega, fun n g h0 h1 M => ?_⟩
    obtain ⟨j, hj, rfl⟩ := nat_in h0 h1
    simp only [forall_const, true_implies, false_implies, implies_true, and_true, true_and, reduceCtorEq, Bool.not_true, Bool.not_false, Bool.true_xor, Bool.false_xor, Option.some.injEq, exists_eq_left', put_same, onB_bl, dSeq, dNext, dBreak, dDrop, dRet, dRetN, dIfS, dName, dgNil, dgCons, dgTup, dAsg, dPar, dPar3, dSetI, dgSub, dRaise, dVar, dC, dOp, dTest, dAnd, dOr, dNot, dAndV, dOrV, dNotV, dIf, dNil, dCons, dTup, dLst, dCall, dCB, dMt, dMt0, dInC, dIxC, dChain, dNeg, dNoPart, dPart, dSl, exE, dIsA, dCat, catchD, subE, Ex.ix, endsD, dLc, dISeq, dIRng1, dIRng2, dIEnum, dFor, dDcT, dDcK, dCallV, mStarts_str, mIndex_str, mUpper_str, dSortSet, dListZip, dListRng, dDnew, dLc2, List.getElem?_cons_zero, List.getElem?_cons_succ, List.set_cons_zero, List.set_cons_succ, onL_lst, isA_non, isA_int_int, isA_bool_int, isA_str_int, isA_tup_int, isA_lst_int, isA_int_str, isA_bool_str, isA_str_str, isA_tup_str, isA_lst_str, isA_int_tup, isA_bool_tup, isA_str_tup, isA_tup_tup, isA_lst_tup, isA_int_bl, isA_bool_bl, isA_str_bl, isA_tup_bl, isA_lst_bl, dAdd_int, dAdd_str, dAdd_tup, dAdd_ref, dSub_int, dLt_int, dLe_int, dGt_int, dGe_int, dMul_int, dMul_str, dMul_ref, dMod_int, dFdiv_int, dPow_int, dIsN_, dNotN_, isNon_int, isNon_non, dEq_str, dEq_int, dNe_str, dNe_int, dIn_sign, dIx_str, dIx_tup, dIx_scr, dIx_ref, dCut_str, dCut_tup, dCut_scr, dCut_ref, bLen_str, bLen_tup, bLen_ref, bInt_int, bInt_bl, bTup_tup, bTup_ref, bList_str, bList_tup, bList_ref, tyD_str, mAppend_ref, mExtend_ref, tyL, dSetL_ref, mJoin_ref, bMin_ref, bMax_ref, atI_0, atI_1, atI_2, moved_old M ea ha]
    exact ⟨ds[j], atI_lt (List.getElem?_eq_getElem hj), fgt_here (q _ _ (List.getElem_mem hj) M)⟩
theorem take_mv {h g : DHp} {p : Addr} {m N many : Int} {K : DK} {E : DX} (P : Pen h p N) (M : Mv h p m g) (hN : N + m ≤ 999999) (h0 : 0 < many) (h1 : many < 1073741824) (q : ∀ n g', 0 ≤ n → n < many → Mv h p (m + 1) g' → K (.int n) g') : [D.ref p, .int many].length = 2 ∧ sp__law_take [.ref p, .int many] g K E :=
  ⟨rfl, pen_le (mv_pen P M) hN, h0, h1, fun n g' a b c => q n g' a b (mv_moved M c)⟩
theorem one_mv {h g : DHp} {p : Addr} {m N : Int} {K : DK} {E : DX} {ds : List D} (P : Pen h p N) (M : Mv h p m g) (hN : N + m ≤ 999999) (h0 : ds ≠ []) (h1 : ds.length ≤ 10000) (q : ∀ d ∈ ds, ∀ g', Mv h p (m + 1) g' → K d g') (r : Addr) (nr : g r = none) : [D.ref p, .ref r].length = 2 ∧ sp__law_one_of [.ref p, .ref r] (put g r (.lst ds)) K E := by
  have M1 := mv_new (o := .lst ds) M nr
  have np : r ≠ p := fun z => (pen_new (mv_pen P M) nr) z.symm
  exact ⟨rfl, np, ds, put_same, pen_le (mv_pen P M1) hN, h0, h1, fun d g' hd M' => q d hd g' (mv_moved M1 M')⟩
theorem one_str {h g : DHp} {p : Addr} {m N : Int} {K : DK} {E : DX} {x : Tx} (P : Pen h p N) (M : Mv h p m g) (hN : N + m ≤ 999999) (h0 : x ≠ []) (h1 : x.length ≤ 10000) (q : ∀ c ∈ x, ∀ g', Mv h p (m + 1) g' → K (.str [c]) g') : [D.ref p, .str x].length = 2 ∧ sp__law_one_of [.ref p, .str x] g K E :=
  ⟨rfl, pen_le (mv_pen P M) hN, h0, h1, fun d g' hd M' => q d hd g' (mv_moved M M')⟩
theorem in3 {d a b c : D} (h : d ∈ [a, b, c]) : d = a ∨ d = b ∨ d = c := by simpa using h
theorem isRule_mk {k : Tx} {m a b : Int} (e : k_BOUNDS k = some (.int m)) (h0 : 0 ≤ a) (h1 : a ≤ b) (h2 : b ≤ m) : isRule (.tup [.str k, .int a, .int b]) = true := by
  simp only [isRule, e, within, Bool.and_eq_true, decide_eq_true_eq]
  omega
end Tw

namespace Tw
open PySem PySem.Spec PyProof.Rows L2
theorem okTx_small {x : Tx} (h : madeOf x SMALL = true) : okTx x := by
  intro c hc
  unfold madeOf at h
  rw [List.all_eq_true] at h
  have hm : c ∈ SMALL := by simpa using h c hc
  have : ∀ c ∈ SMALL, c < 1114112 := by decide
  exact this c hm
theorem readW_ok {k x : Tx} {a b : Nat} (hx : okTx x) : ∀ w ∈ readW k x a b, okTx w := by
  intro w hw
  unfold readW at hw
  rw [inOrder_mem] at hw
  obtain ⟨i, m, _, _, rfl⟩ := tearsL_mem hw
  exact okTx_tear hx
theorem weight_strs {L : Nat} : ∀ {ws : List Tx}, (∀ w ∈ ws, w.length ≤ L) → PyData.weightAll (ws.map fun w => PyData.str (tx w)) ≤ ws.length * (L + 1)
  | [], _ => by simp [PyData.weightAll]
  | w :: ws, h => by
    have h1 := weight_strs (ws := ws) (L := L) fun v hv => h v (by simp [hv])
    have h2 : w.length ≤ L := h w (by simp)
    have h3 : (tx w).cps.size = w.length := by simp [tx]
    rw [List.map_cons, PyData.weightAll, PyData.weight, h3, List.length_cons, Nat.succ_mul]
    omega
theorem leaf_s {x : Tx} (h : okTx x) : PyData.leavesShort 8 (.str (tx x)) = true := by
  simp only [PyData.leavesShort, List.all_eq_true, decide_eq_true_eq]
  intro c hc
  have := h c (by simpa [tx] using hc)
  have e : (16 : Nat) ^ 8 = 4294967296 := by decide
  omega
theorem leaf_l : ∀ {ws : List Tx}, (∀ w ∈ ws, okTx w) → PyData.leavesShortAll 8 (ws.map fun w => PyData.str (tx w)) = true
  | [], _ => rfl
  | w :: ws, h => by
    rw [List.map_cons, PyData.leavesShortAll, Bool.and_eq_true]
    exact ⟨leaf_s (h w (by simp)), leaf_l fun v hv => h v (by simp [hv])⟩
theorem show_l : ∀ ws : List Tx, PyData.showableAll (ws.map fun w => PyData.str (tx w)) = true
  | [] => rfl
  | w :: ws => by rw [List.map_cons, PyData.showableAll, show_l ws]; rfl
theorem nodict_l : ∀ ws : List Tx, PyData.hasDictAll (ws.map fun w => PyData.str (tx w)) = false
  | [] => rfl
  | w :: ws => by rw [List.map_cons, PyData.hasDictAll, nodict_l ws]; rfl
def shownL (ws : List Tx) : Tx := (PyData.list (ws.map fun w => PyData.str (tx w))).shown.cps.toList
def shownS (x : Tx) : Tx := (PyData.str (tx x)).shown.cps.toList
theorem repr_strs {h : DHp} {a : Addr} {ws : List Tx} {K : DK} (L N : Nat) (ea : h a = some (.lst (ws.map D.str))) (ok : ∀ w ∈ ws, okTx w) (hL : ∀ w ∈ ws, w.length ≤ L) (hN : ws.length ≤ N) (hs : 10 * (N * (L + 1)) + 8 ≤ sizeLine) (k : K (.str (shownL ws)) h) : bRepr [.ref a] h K := by
  refine ⟨_, .lst ea (pya_strs ws), ?_, ?_, ?_, ?_, k⟩
  · simp only [PyData.showable]; exact show_l ws
  · simp only [PyData.hasDict]; exact nodict_l ws
  · have e := depth_all ws
    simp only [PyData.depth, e]
    decide
  · have h1 := PyData.shown_le 8 (by decide) (.list (ws.map fun w => PyData.str (tx w))) (by simp only [PyData.leavesShort]; exact leaf_l ok)
    have h2 := weight_strs hL
    have h3 : ws.length * (L + 1) ≤ N * (L + 1) := Nat.mul_le_mul_right _ hN
    simp only [PyData.weight] at h1
    omega
theorem repr_str {h : DHp} {x : Tx} {K : DK} (ok : okTx x) (hL : x.length ≤ 100000) (k : K (.str (shownS x)) h) : bRepr [.str x] h K := by
  have hs := sizeLine_eq
  refine ⟨_, .str x, rfl, rfl, Nat.zero_le _, ?_, k⟩
  have h1 := PyData.shown_le 8 (by decide) (.str (tx x)) (leaf_s ok)
  have h3 : (tx x).cps.size = x.length := by simp [tx]
  simp only [PyData.weight, h3] at h1
  omega
theorem inOrder_len (ws : List Tx) : (inOrder ws).length ≤ ws.length := by
  have e2 := putTs_nub ws []
  rw [List.map_nil] at e2
  have h1 := putTs_len (ws.map fun x => (keyT x, D.bl true)) []
  rw [e2] at h1
  unfold inOrder
  rw [(List.mergeSort_perm (nub ws) leW).length_eq]
  simpa [nub] using h1
theorem readW_len {k x : Tx} {a b : Nat} (hb : b ≤ 3) (hx : x.length ≤ 27) : (readW k x a b).length ≤ 112 := by
  refine Nat.le_trans (inOrder_len _) (Nat.le_trans (tearsL_len _) ?_)
  have : (b + 1 - a) * (x.length + 1) ≤ 4 * 28 := Nat.mul_le_mul (by omega) (by omega)
  omega
theorem readW_each {k x : Tx} {a b : Nat} (hx : x.length ≤ 27) : ∀ w ∈ readW k x a b, w.length ≤ 55 := by
  intro w hw
  unfold readW at hw
  rw [inOrder_mem] at hw
  obtain ⟨i, m, _, h5, rfl⟩ := tearsL_mem hw
  have := tearW_len (k := k) h5 (.inr True.intro)
  omega
theorem pen_less {h g : DHp} {p : Addr} {N : Int} (P : Pen h p N) (l : Less h g) : Pen g p N := by
  obtain ⟨c, k, v, ns, hp, hc, h1, h2⟩ := P
  exact ⟨c, k, v, ns, l _ _ hp, l _ _ hc, h1, h2⟩
theorem pen_new2 {h : DHp} {p r : Addr} {N : Int} {o : DO} (P : Pen h p N) (n : h r = none) : Pen (put h r o) p N := pen_less P (Less.put n)
theorem moved_mv {h g : DHp} {p : Addr} {m N : Int} (P : Pen h p N) (M : Moved h p m g) : Mv h p m g := by
  have := mv_moved (mv_refl P) M
  rwa [Int.zero_add] at this
theorem isText_small {x : Tx} (h : x.length ≤ 200) (m : madeOf x SMALL = true) : isText (.str x) SMALL = true := by
  simp [isText, h, m]
end Tw

/-! Machines, their words: the plain law. -/
namespace Tw
open PySem PySem.Spec PyProof.Rows L2
structure Mch where
  L : Tx
  R : List (List (Option Nat))
  E : List Nat
def optD : Option Nat → D
  | none => .non
  | some q => .int q
def rowD (r : List (Option Nat)) : D := .tup (r.map optD)
def natsD (l : List Nat) : List D := l.map fun (e : Nat) => D.int (e : Int)
def mchD (M : Mch) : D := .tup [.str M.L, .tup (M.R.map rowD), .tup (natsD M.E)]
structure Mch.ok (M : Mch) : Prop where
  small : ∀ c ∈ M.L, c ∈ SMALL
  asc : M.L.Pairwise (· < ·)
  l1 : 1 ≤ M.L.length
  l3 : M.L.length ≤ 3
  r1 : 1 ≤ M.R.length
  r6 : M.R.length ≤ 6
  row : ∀ r ∈ M.R, r.length = M.L.length ∧ ∀ q, some q ∈ r → q < M.R.length
  ends : ∀ e ∈ M.E, e < M.R.length
  easc : M.E.Pairwise (· < ·)
def Mch.step (M : Mch) (q c : Nat) : Option Nat := (M.R.getD q []).getD (M.L.idxOf c) none
def Mch.run (M : Mch) : Option Nat → Tx → Option Nat
  | o, [] => o
  | none, _ :: _ => none
  | some q, c :: w => M.run (M.step q c) w
def Mch.fin (M : Mch) (o : Option Nat) : Bool := match o with
  | some q => decide (q ∈ M.E)
  | none => false
def Mch.has (M : Mch) (w : Tx) : Bool := M.fin (M.run (some 0) w)
theorem run_none (M : Mch) : ∀ w, M.run none w = none
  | [] => rfl
  | _ :: _ => rfl
theorem run_app (M : Mch) : ∀ (u : Tx) (o : Option Nat) (v : Tx), M.run o (u ++ v) = M.run (M.run o u) v
  | [], _, _ => rfl
  | c :: u, none, v => by rw [run_none, run_none, run_none]
  | c :: u, some q, v => by
    show M.run (M.step q c) (u ++ v) = _
    exact run_app M u _ v
theorem run_one (M : Mch) (q c : Nat) : M.run (some q) [c] = M.step q c := rfl
theorem row_at {M : Mch} (ok : M.ok) {q : Nat} (h : q < M.R.length) : ∃ r, M.R[q]? = some r ∧ M.R.getD q [] = r ∧ r.length = M.L.length ∧ ∀ a, some a ∈ r → a < M.R.length := by
  refine ⟨M.R[q], List.getElem?_eq_getElem h, ?_, ok.row _ (List.getElem_mem h)⟩
  simp [List.getD, List.getElem?_eq_getElem h]
theorem step_lt {M : Mch} (ok : M.ok) {q c a : Nat} (h : q < M.R.length) (e : M.step q c = some a) : a < M.R.length := by
  obtain ⟨r, _, e2, _, hr⟩ := row_at ok h
  unfold Mch.step at e
  rw [e2] at e
  refine hr a ?_
  rw [List.getD_eq_getElem?_getD] at e
  cases q2 : r[M.L.idxOf c]? with
  | none => rw [q2] at e; cases e
  | some o => rw [q2] at e; have e : o = some a := e; subst e; exact List.mem_of_getElem? q2
theorem run_lt {M : Mch} (ok : M.ok) : ∀ (w : Tx) (o : Option Nat) (a : Nat), (∀ q, o = some q → q < M.R.length) → M.run o w = some a → a < M.R.length
  | [], o, a, h, e => h a e
  | c :: w, none, a, h, e => by rw [run_none] at e; cases e
  | c :: w, some q, a, h, e => run_lt ok w (M.step q c) a (fun b eb => step_lt ok (h q rfl) eb) e
theorem asc_len : ∀ (l : List Nat) (a n : Nat), l.Pairwise (· < ·) → (∀ x ∈ l, a ≤ x ∧ x < n) → l.length ≤ n - a
  | [], _, _, _, _ => Nat.zero_le _
  | x :: l, a, n, h, hx => by
    rw [List.pairwise_cons] at h
    have h1 := hx x (by simp)
    have := asc_len l (x + 1) n h.2 fun y hy => ⟨h.1 y hy, (hx y (by simp [hy])).2⟩
    rw [List.length_cons]
    omega
theorem ends_len {M : Mch} (ok : M.ok) : M.E.length ≤ 6 := by
  have := asc_len M.E 0 M.R.length ok.easc fun x hx => ⟨Nat.zero_le _, ok.ends x hx⟩
  have := ok.r6
  omega
/-! ### alive states -/
def Mch.any (M : Mch) (f : Nat → Bool) (q : Nat) : Bool := (M.R.getD q []).any fun o => match o with
  | some a => f a
  | none => false
def Mch.al (M : Mch) : Nat → Nat → Bool
  | 0, q => decide (q ∈ M.E)
  | t + 1, q => M.al t q || M.any (M.al t) q
theorem any_iff {M : Mch} {f : Nat → Bool} {q : Nat} : M.any f q = true ↔ ∃ a, some a ∈ M.R.getD q [] ∧ f a = true := by
  unfold Mch.any
  rw [List.any_eq_true]
  constructor
  · rintro ⟨o, ho, h⟩
    cases o with
    | none => cases h
    | some a => exact ⟨a, ho, h⟩
  · rintro ⟨a, ha, h⟩
    exact ⟨some a, ha, h⟩
theorem any_mono {M : Mch} {f g : Nat → Bool} {q : Nat} (h : ∀ a, f a = true → g a = true) (e : M.any f q = true) : M.any g q = true := by
  rw [any_iff] at e ⊢
  obtain ⟨a, ha, h1⟩ := e
  exact ⟨a, ha, h a h1⟩
theorem al_succ {M : Mch} {t q : Nat} (h : M.al t q = true) : M.al (t + 1) q = true := by
  show (M.al t q || _) = true
  rw [h]; rfl
theorem al_add {M : Mch} {t q : Nat} : ∀ s, M.al t q = true → M.al (t + s) q = true
  | 0, h => h
  | s + 1, h => al_succ (al_add s h)
theorem al_le {M : Mch} {t s q : Nat} (l : t ≤ s) (h : M.al t q = true) : M.al s q = true := by
  have := al_add (s - t) h
  rwa [show t + (s - t) = s by omega] at this
theorem al_lt {M : Mch} (ok : M.ok) : ∀ {t q : Nat}, M.al t q = true → q < M.R.length
  | 0, q, h => ok.ends q (of_decide_eq_true h)
  | t + 1, q, h => by
    rcases Bool.or_eq_true_iff.mp (show (M.al t q || M.any (M.al t) q) = true from h) with h | h
    · exact al_lt ok h
    · rw [any_iff] at h
      obtain ⟨a, ha, _⟩ := h
      refine Classical.byContradiction fun z => ?_
      have : M.R.getD q [] = [] := by simp [List.getD, List.getElem?_eq_none (Nat.le_of_not_lt z)]
      rw [this] at ha
      cases ha
/-- nothing new in turn t -/
def Mch.still (M : Mch) (t : Nat) : Prop := ∀ q, M.al (t + 1) q = M.al t q
theorem still_next {M : Mch} {t : Nat} (h : M.still t) : M.still (t + 1) := by
  have e : M.al (t + 1) = M.al t := funext h
  intro q
  show (M.al (t + 1) q || M.any (M.al (t + 1)) q) = _
  rw [e]
  exact h q
theorem still_all {M : Mch} {t : Nat} (h : M.still t) : ∀ s q, M.al (t + s) q = M.al t q
  | 0, _ => rfl
  | s + 1, q => by
    have hs : ∀ s, M.still (t + s) := by
      intro s
      induction s with
      | zero => exact h
      | succ s ih => exact still_next ih
    rw [show t + (s + 1) = (t + s) + 1 by omega, hs s q, still_all h s q]
def Mch.cnt (M : Mch) (t : Nat) : Nat := (List.range M.R.length).countP (M.al t)
theorem cnt_le {M : Mch} {t : Nat} : M.cnt t ≤ M.R.length := by
  unfold Mch.cnt
  have := List.countP_le_length (p := M.al t) (l := List.range M.R.length)
  simpa using this
theorem countP_lt {α : Type} {f g : α → Bool} : ∀ (l : List α), (∀ x ∈ l, f x = true → g x = true) → (∃ x ∈ l, f x = false ∧ g x = true) → l.countP f < l.countP g
  | [], _, ⟨x, h, _⟩ => by cases h
  | y :: l, m, ⟨x, h, h1, h2⟩ => by
    have ml : ∀ x ∈ l, f x = true → g x = true := fun x hx => m x (by simp [hx])
    have le : l.countP f ≤ l.countP g := List.countP_mono_left ml
    rw [List.countP_cons, List.countP_cons]
    rcases List.mem_cons.mp h with e | h
    · subst e
      rw [h1, h2]
      simp
      omega
    · have := countP_lt l ml ⟨x, h, h1, h2⟩
      by_cases z : f y = true
      · rw [if_pos z, if_pos (m y (by simp) z)]; omega
      · rw [if_neg z]; omega
theorem cnt_grow {M : Mch} (ok : M.ok) {t : Nat} (h : ¬ M.still t) : M.cnt t < M.cnt (t + 1) := by
  unfold Mch.still at h
  obtain ⟨q, hq⟩ := Classical.not_forall.mp h
  have h1 : M.al t q = false := by
    cases e : M.al t q with
    | false => rfl
    | true => rw [e, al_succ e] at hq; exact absurd rfl hq
  have h2 : M.al (t + 1) q = true := by
    cases e : M.al (t + 1) q with
    | true => rfl
    | false => rw [e, h1] at hq; exact absurd rfl hq
  exact countP_lt _ (fun x _ => al_succ) ⟨q, List.mem_range.mpr (al_lt ok h2), h1, h2⟩
theorem cnt_many {M : Mch} (ok : M.ok) : ∀ t, (∀ s, s < t → ¬ M.still s) → t ≤ M.cnt t
  | 0, _ => Nat.zero_le _
  | t + 1, h => by
    have h1 := cnt_many ok t fun s hs => h s (by omega)
    have h2 := cnt_grow ok (h t (by omega))
    omega
theorem still_6 {M : Mch} (ok : M.ok) : M.still 6 := by
  refine Classical.byContradiction fun z => ?_
  have all : ∀ s, s < 7 → ¬ M.still s := by
    intro s hs hst
    have : ∀ k, M.still (s + k) := by
      intro k
      induction k with
      | zero => exact hst
      | succ k ih => exact still_next ih
    have := this (6 - s)
    rw [show s + (6 - s) = 6 by omega] at this
    exact z this
  have h1 := cnt_many ok 7 all
  have h2 := cnt_le (M := M) (t := 7)
  have h3 := ok.r6
  omega
def Mch.live (M : Mch) (q : Nat) : Bool := M.al 6 q
theorem still_live {M : Mch} (ok : M.ok) {t : Nat} (h : M.still t) (q : Nat) : M.al t q = M.live q := by
  unfold Mch.live
  by_cases z : t ≤ 6
  · have := still_all h (6 - t) q
    rw [show t + (6 - t) = 6 by omega] at this
    exact this.symm
  · have := still_all (still_6 ok) (t - 6) q
    rw [show 6 + (t - 6) = t by omega] at this
    exact this
theorem live_closed {M : Mch} (ok : M.ok) {q a : Nat} (h : some a ∈ M.R.getD q []) (l : M.live a = true) : M.live q = true := by
  have e := still_6 ok q
  unfold Mch.live at l ⊢
  rw [← e]
  show (M.al 6 q || M.any (M.al 6) q) = true
  rw [Bool.or_eq_true]
  exact .inr (any_iff.mpr ⟨a, h, l⟩)
theorem live_end {M : Mch} {q : Nat} (h : q ∈ M.E) : M.live q = true := al_add 6 (t := 0) (by simpa [Mch.al] using h)
/-- what holds at the ends and backwards along the ways holds where it lives -/
theorem al_least {M : Mch} {P : Nat → Prop} (h0 : ∀ q ∈ M.E, P q) (h1 : ∀ q a, some a ∈ M.R.getD q [] → P a → P q) : ∀ t q, M.al t q = true → P q
  | 0, q, h => h0 q (of_decide_eq_true h)
  | t + 1, q, h => by
    rcases Bool.or_eq_true_iff.mp (show (M.al t q || M.any (M.al t) q) = true from h) with h | h
    · exact al_least h0 h1 t q h
    · rw [any_iff] at h
      obtain ⟨a, ha, l⟩ := h
      exact h1 q a ha (al_least h0 h1 t a l)
/-! ### levels -/
abbrev Nd := Tx × Nat
def Mch.nxt (M : Mch) (p : Nd) : List Nd := (M.L.zip (M.R.getD p.2 [])).filterMap fun co => match co.2 with
  | some a => if M.live a then some (p.1 ++ [co.1], a) else none
  | none => none
def Mch.lev (M : Mch) : Nat → List Nd
  | 0 => if M.live 0 then [([], 0)] else []
  | k + 1 => (M.lev k).flatMap M.nxt
def Mch.fw1 (M : Mch) (l : List Nd) : List Tx := (l.filter fun p => decide (p.2 ∈ M.E)).map (·.1)
def Mch.fw (M : Mch) : Nat → List Tx
  | 0 => []
  | k + 1 => M.fw k ++ M.fw1 (M.lev k)
def Mch.cF (M : Mch) : List Nd → Nat → Nat
  | _, 0 => 0
  | l, k + 1 => (M.fw1 l).length + M.cF (l.flatMap M.nxt) k
theorem cF_app {M : Mch} : ∀ (k : Nat) (l r : List Nd), M.cF (l ++ r) k = M.cF l k + M.cF r k
  | 0, _, _ => rfl
  | k + 1, l, r => by
    show (M.fw1 (l ++ r)).length + M.cF ((l ++ r).flatMap M.nxt) k = _
    rw [List.flatMap_append, cF_app k]
    show _ = (M.fw1 l).length + M.cF (l.flatMap M.nxt) k + ((M.fw1 r).length + M.cF (r.flatMap M.nxt) k)
    unfold Mch.fw1
    rw [List.filter_append, List.map_append, List.length_append]
    omega
theorem cF_up {M : Mch} : ∀ (k : Nat) (l : List Nd), M.cF l k ≤ M.cF l (k + 1)
  | 0, _ => Nat.zero_le _
  | k + 1, l => by
    show (M.fw1 l).length + M.cF (l.flatMap M.nxt) k ≤ (M.fw1 l).length + M.cF (l.flatMap M.nxt) (k + 1)
    have := cF_up (M := M) k (l.flatMap M.nxt)
    omega
theorem cF_mem {M : Mch} {k : Nat} {l : List Nd} {p : Nd} (h : p ∈ l) : M.cF [p] k ≤ M.cF l k := by
  obtain ⟨a, b, rfl⟩ := List.append_of_mem h
  rw [cF_app, show p :: b = [p] ++ b from rfl, cF_app]
  omega
theorem nxt_mem {M : Mch} (ok : M.ok) {p : Nd} {a : Nat} (h : some a ∈ M.R.getD p.2 []) (l : M.live a = true) : ∃ c, (p.1 ++ [c], a) ∈ M.nxt p := by
  have hq : p.2 < M.R.length := by
    refine Classical.byContradiction fun z => ?_
    have : M.R.getD p.2 [] = [] := by simp [List.getD, List.getElem?_eq_none (Nat.le_of_not_lt z)]
    rw [this] at h
    cases h
  obtain ⟨r, _, e2, e3, _⟩ := row_at ok hq
  rw [e2] at h
  obtain ⟨i, hi, ei⟩ := List.getElem_of_mem h
  have hL : i < M.L.length := by omega
  refine ⟨M.L[i], ?_⟩
  unfold Mch.nxt
  rw [List.mem_filterMap, e2]
  refine ⟨(M.L[i], some a), ?_, by simp [l]⟩
  rw [List.mem_iff_getElem]
  exact ⟨i, by simp; omega, by simp [ei]⟩
theorem cF_live {M : Mch} (ok : M.ok) : ∀ (t : Nat) (p : Nd), t ≤ 6 → M.al t p.2 = true → 1 ≤ M.cF [p] (t + 1)
  | 0, p, _, h => by
    show 1 ≤ (M.fw1 [p]).length + 0
    have h : p.2 ∈ M.E := of_decide_eq_true h
    simp [Mch.fw1, h]
  | t + 1, p, ht, h => by
    rcases Bool.or_eq_true_iff.mp (show (M.al t p.2 || M.any (M.al t) p.2) = true from h) with h | h
    · exact Nat.le_trans (cF_live ok t p (by omega) h) (cF_up _ _)
    · rw [any_iff] at h
      obtain ⟨a, ha, l⟩ := h
      obtain ⟨c, hc⟩ := nxt_mem ok ha (al_le (by omega : t ≤ 6) l)
      have h1 := cF_live ok t (p.1 ++ [c], a) (by omega) l
      show 1 ≤ (M.fw1 [p]).length + M.cF ([p].flatMap M.nxt) (t + 1)
      have h2 := cF_mem (M := M) (k := t + 1) (l := [p].flatMap M.nxt) (p := (p.1 ++ [c], a)) (by simpa using hc)
      omega
theorem cF_all {M : Mch} (ok : M.ok) : ∀ (l : List Nd), (∀ p ∈ l, M.live p.2 = true) → l.length ≤ M.cF l 7
  | [], _ => Nat.zero_le _
  | p :: l, h => by
    have h1 := cF_all ok l fun p hp => h p (by simp [hp])
    have h2 : 1 ≤ M.cF [p] 7 := cF_live ok 6 p (Nat.le_refl _) (h p (by simp))
    rw [show p :: l = [p] ++ l from rfl, cF_app, List.length_append]
    simp
    omega
theorem fw_cF {M : Mch} : ∀ (k j : Nat), (M.fw (j + k)).length = (M.fw j).length + M.cF (M.lev j) k
  | 0, j => rfl
  | k + 1, j => by
    have := fw_cF (M := M) k (j + 1)
    rw [show j + 1 + k = j + (k + 1) by omega] at this
    rw [this]
    show (M.fw j ++ M.fw1 (M.lev j)).length + M.cF (M.lev (j + 1)) k = (M.fw j).length + ((M.fw1 (M.lev j)).length + M.cF ((M.lev j).flatMap M.nxt) k)
    rw [List.length_append]
    show _ + M.cF ((M.lev j).flatMap M.nxt) k = _
    omega
theorem nxt_ok {M : Mch} (ok : M.ok) {p p' : Nd} (h : p' ∈ M.nxt p) : M.live p'.2 = true ∧ p'.1.length = p.1.length + 1 ∧ ∃ c, c ∈ M.L ∧ p'.1 = p.1 ++ [c] := by
  unfold Mch.nxt at h
  rw [List.mem_filterMap] at h
  obtain ⟨⟨c, o⟩, hm, e⟩ := h
  cases o with
  | none => cases e
  | some a =>
    simp only at e
    split at e
    · rename_i hl
      cases e
      exact ⟨hl, by simp, c, (List.of_mem_zip hm).1, rfl⟩
    · cases e
theorem lev_ok {M : Mch} (ok : M.ok) : ∀ (k : Nat) (p : Nd), p ∈ M.lev k → M.live p.2 = true ∧ p.1.length = k ∧ ∀ c ∈ p.1, c ∈ M.L
  | 0, p, h => by
    unfold Mch.lev at h
    split at h
    · rename_i hl
      simp at h
      subst h
      exact ⟨hl, rfl, by simp⟩
    · cases h
  | k + 1, p, h => by
    obtain ⟨p0, h0, h1⟩ := List.mem_flatMap.mp h
    obtain ⟨_, e2, e3⟩ := lev_ok ok k p0 h0
    obtain ⟨a, b, c, hc, e⟩ := nxt_ok ok h1
    refine ⟨a, by omega, ?_⟩
    rw [e]
    intro x hx
    rcases List.mem_append.mp hx with hx | hx
    · exact e3 x hx
    · simp at hx; subst hx; exact hc
theorem nxt_len {M : Mch} (ok : M.ok) (p : Nd) : (M.nxt p).length ≤ 3 := by
  unfold Mch.nxt
  refine Nat.le_trans (List.length_filterMap_le _ _) ?_
  rw [List.length_zip]
  have := ok.l3
  omega
theorem flat_len {M : Mch} (ok : M.ok) : ∀ l : List Nd, (l.flatMap M.nxt).length ≤ 3 * l.length
  | [] => Nat.zero_le _
  | p :: l => by
    rw [List.flatMap_cons, List.length_append, List.length_cons]
    have := flat_len ok l
    have := nxt_len ok p
    omega
theorem lev_add {M : Mch} (ok : M.ok) (j : Nat) : ∀ k, (M.lev (j + k)).length ≤ 3 ^ k * (M.lev j).length
  | 0 => by simp
  | k + 1 => by
    have h1 := lev_add ok j k
    have h2 := flat_len ok (M.lev (j + k))
    have e : 3 ^ (k + 1) * (M.lev j).length = 3 * (3 ^ k * (M.lev j).length) := by rw [Nat.pow_succ, Nat.mul_comm (3 ^ k) 3, Nat.mul_assoc]
    rw [e]
    show ((M.lev (j + k)).flatMap M.nxt).length ≤ _
    omega
theorem fw_grow {M : Mch} (ok : M.ok) (j : Nat) : (M.fw j).length + (M.lev j).length ≤ (M.fw (j + 7)).length := by
  rw [fw_cF 7 j]
  have := cF_all ok (M.lev j) fun p hp => (lev_ok ok j p hp).1
  omega
theorem fw_pre {M : Mch} (j : Nat) : ∀ k, M.fw j <+: M.fw (j + k)
  | 0 => List.prefix_refl _
  | k + 1 => (fw_pre j k).trans (List.prefix_append _ _)
theorem lev_zero {M : Mch} (ok : M.ok) : (M.lev 0).length ≤ 1 := by
  unfold Mch.lev
  split <;> simp
theorem lev_small {M : Mch} (ok : M.ok) {K n : Nat} (hn : n ≤ 40) (h : (M.fw K).length < n) : (M.lev K).length ≤ 87480 := by
  by_cases hK : K < 7
  · have h1 := lev_add ok 0 K
    rw [Nat.zero_add] at h1
    have h2 := lev_zero ok
    have h3 : 3 ^ K ≤ 3 ^ 6 := Nat.pow_le_pow_right (by omega) (by omega)
    have h4 : 3 ^ K * (M.lev 0).length ≤ 3 ^ 6 * 1 := Nat.mul_le_mul h3 h2
    omega
  · have h1 := fw_grow ok (K - 7)
    rw [show K - 7 + 7 = K by omega] at h1
    have h2 := lev_add ok (K - 7) 7
    rw [show K - 7 + 7 = K by omega] at h2
    have h4 : 3 ^ 7 * (M.lev (K - 7)).length ≤ 3 ^ 7 * 39 := Nat.mul_le_mul (Nat.le_refl _) (by omega)
    omega
theorem lev_gone {M : Mch} {K : Nat} (h : M.lev K = []) : ∀ j, M.lev (K + j) = []
  | 0 => h
  | j + 1 => by
    show (M.lev (K + j)).flatMap M.nxt = []
    rw [lev_gone h j]
    rfl
theorem fw_7 {M : Mch} (ok : M.ok) : ∀ m K, 7 * m ≤ K → M.lev K ≠ [] → m ≤ (M.fw (7 * m)).length
  | 0, _, _, _ => Nat.zero_le _
  | m + 1, K, hm, h => by
    have h1 := fw_7 ok m K (by omega) h
    have h2 := fw_grow ok (7 * m)
    have h3 : 0 < (M.lev (7 * m)).length := by
      rw [List.length_pos_iff]
      intro z
      have := lev_gone z (K - 7 * m)
      rw [show 7 * m + (K - 7 * m) = K by omega] at this
      exact h this
    rw [show 7 * (m + 1) = 7 * m + 7 by omega]
    omega
theorem runs_few {M : Mch} (ok : M.ok) {K n : Nat} (hn : n ≤ 40) (hl : M.lev K ≠ []) (h : (M.fw K).length < n) : K < 290 := by
  have h1 := fw_7 ok (K / 7) K (by omega) hl
  have h2 := (fw_pre (M := M) (7 * (K / 7)) (K - 7 * (K / 7))).length_le
  rw [show 7 * (K / 7) + (K - 7 * (K / 7)) = K by omega] at h2
  omega
def Mch.firsts (M : Mch) (n : Nat) : List Tx := (M.fw 300).take n
theorem fw_gone {M : Mch} {K : Nat} (h : M.lev K = []) : ∀ j, M.fw (K + j) = M.fw K
  | 0 => rfl
  | j + 1 => by
    show M.fw (K + j) ++ M.fw1 (M.lev (K + j)) = _
    rw [lev_gone h j, fw_gone h j]
    simp [Mch.fw1]
theorem firsts_at {M : Mch} {K n : Nat} (hK : K ≤ 300) (h : M.lev K = [] ∨ n ≤ (M.fw K).length) : (M.fw K).take n = M.firsts n := by
  unfold Mch.firsts
  rcases h with h | h
  · have := fw_gone h (300 - K)
    rw [show K + (300 - K) = 300 by omega] at this
    rw [this]
  · obtain ⟨t, e⟩ := fw_pre (M := M) K (300 - K)
    rw [show K + (300 - K) = 300 by omega] at e
    rw [← e, List.take_append_of_le_length h]
/-- the letters beside their ways -/
theorem zip_idx : ∀ (L : Tx) (r : List (Option Nat)), L.Nodup → L.length = r.length → L.zip r = L.map fun c => (c, r.getD (L.idxOf c) none)
  | [], [], _, _ => rfl
  | [], _ :: _, _, e => by simp at e
  | _ :: _, [], _, e => by simp at e
  | c :: L, o :: r, nd, e => by
    rw [List.nodup_cons] at nd
    rw [List.zip_cons_cons, List.map_cons, zip_idx L r nd.2 (by simpa using e)]
    congr 1
    · simp
    · refine List.map_congr_left fun x hx => ?_
      have : c ≠ x := fun z => nd.1 (z ▸ hx)
      have hb : (c == x) = false := by simpa using this
      simp [List.idxOf_cons, hb]
theorem asc_nodup {L : List Nat} (h : L.Pairwise (· < ·)) : L.Nodup := h.imp fun {a b} (l : a < b) e => by omega
theorem nxt_map {M : Mch} (ok : M.ok) (p : Nd) (hq : p.2 < M.R.length) : M.nxt p = (M.L.map fun c => (c, M.step p.2 c)).filterMap fun co => match co.2 with
    | some a => if M.live a then some (p.1 ++ [co.1], a) else none
    | none => none := by
  obtain ⟨r, _, e2, e3, _⟩ := row_at ok hq
  unfold Mch.nxt
  rw [e2, zip_idx M.L r (asc_nodup ok.asc) e3.symm]
  unfold Mch.step
  rw [e2]
/-- two ascending lists of the same members -/
theorem asc_same {α : Type} {lt : α → α → Prop} (irr : ∀ a, ¬ lt a a) (tr : ∀ a b, lt a b → ¬ lt b a) : ∀ {l r : List α}, l.Pairwise lt → r.Pairwise lt → (∀ x, x ∈ l ↔ x ∈ r) → l = r
  | [], [], _, _, _ => rfl
  | [], b :: r, _, _, h => absurd ((h b).mpr (by simp)) (by simp)
  | a :: l, [], _, _, h => absurd ((h a).mp (by simp)) (by simp)
  | a :: l, b :: r, h1, h2, h => by
    rw [List.pairwise_cons] at h1 h2
    have e : a = b := by
      rcases List.mem_cons.mp ((h a).mp (by simp)) with e | ha
      · exact e
      · rcases List.mem_cons.mp ((h b).mpr (by simp)) with e | hb
        · exact e.symm
        · exact absurd (h1.1 b hb) (tr _ _ (h2.1 a ha))
    subst e
    rw [asc_same irr tr h1.2 h2.2 fun x => ?_]
    constructor
    · intro hx
      rcases List.mem_cons.mp ((h x).mp (by simp [hx])) with e | g
      · subst e; exact absurd (h1.1 x hx) (irr x)
      · exact g
    · intro hx
      rcases List.mem_cons.mp ((h x).mpr (by simp [hx])) with e | g
      · subst e; exact absurd (h2.1 x hx) (irr x)
      · exact g
end Tw

namespace Tw
open PySem PySem.Spec PyProof.Rows L2
/-- a comprehension of True alone, under all -/
theorem lc_all {p : Pat} {me : ME} {vs : List Nat} {δ : DSt} {ds : List D} {ok : DHp → Prop} {h : DHp} {K : DK} (hok : ok h) (hz : ds.length ≤ sizeLine)
    (he : ∀ d ∈ ds, ∃ δ2, patB p d (dwipe δ vs) = some δ2 ∧ ∀ K : DK, K (.bl true) h → me δ2 h K nox) (q : ∀ r o, h r = none → K (.bl true) (put h r o)) : LcB p dYes me vs δ (fun x h1 => bAll (fun bs => bs.all id) [x] h1 K) ds ok h := by
  refine lcB_map (fun _ => .bl true) hok hz he fun r nr => ?_
  refine ⟨ds.map fun _ => true, by simp [listD, put_same, List.map_map, Function.comp_def], ?_⟩
  have e : (ds.map fun _ => true).all id = true := by simp
  simp only [e]
  exact q r _ nr
theorem eqvAll_ints : ∀ ws vs : List Int, PyData.eqvAll (ws.map PyData.int) (vs.map PyData.int) = decide (ws = vs)
  | [], [] => rfl
  | [], v :: vs => by simp [PyData.eqvAll]
  | w :: ws, [] => by simp [PyData.eqvAll]
  | w :: ws, v :: vs => by
    rw [List.map_cons, List.map_cons, PyData.eqvAll, eqvAll_ints ws vs]
    have e : PyData.eqv (.int w) (.int v) = decide (w = v) := by
      simp only [PyData.eqv]
      rw [Bool.eq_iff_iff]
      simp
    rw [e]
    by_cases h1 : w = v <;> by_cases h2 : ws = vs <;> simp [h1, h2]
theorem pya_ints {h : DHp} : ∀ ws : List Int, PyA h (ws.map D.int) (ws.map PyData.int)
  | [] => .nil
  | w :: ws => .cons (.int w) (pya_ints ws)
theorem canI_all : ∀ ws : List Int, PyData.canLayAll0 (ws.map PyData.int) = true
  | [] => rfl
  | w :: ws => by rw [List.map_cons, PyData.canLayAll0, canI_all ws]; rfl
theorem depthI_all : ∀ ws : List Int, PyData.depthAll (ws.map PyData.int) = 0
  | [] => rfl
  | w :: ws => by rw [List.map_cons, PyData.depthAll, depthI_all ws]; rfl
theorem shaped_i (ws : List Int) : SeqAt.shaped (.list (ws.map PyData.int)) = true := by
  simp only [SeqAt.shaped, PyData.canLay0, PyData.depth, Bool.and_eq_true, decide_eq_true_eq]
  have e := depthI_all ws
  exact ⟨canI_all ws, by first | (rw [e]; decide) | (simp [e])⟩
theorem dEq_ints {h : DHp} {a b : Addr} {ws vs : List Int} {K : DK} (ea : h a = some (.lst (ws.map D.int))) (eb : h b = some (.lst (vs.map D.int))) (k : K (.bl (decide (ws = vs))) h) : dEq (.ref a) (.ref b) h K :=
  ⟨_, _, .lst ea (pya_ints ws), .lst eb (pya_ints vs), shaped_i _, shaped_i _, by simp only [PyData.eqv]; rw [eqvAll_ints]; exact k⟩
theorem dNe_ints {h : DHp} {a b : Addr} {ws vs : List Int} {K : DK} (ea : h a = some (.lst (ws.map D.int))) (eb : h b = some (.lst (vs.map D.int))) (k : K (.bl (!decide (ws = vs))) h) : dNe (.ref a) (.ref b) h K :=
  ⟨_, _, .lst ea (pya_ints ws), .lst eb (pya_ints vs), shaped_i _, shaped_i _, by simp only [PyData.eqv]; rw [eqvAll_ints]; exact k⟩
theorem natsD_int (E : List Nat) : natsD E = (E.map fun (e : Nat) => (e : Int)).map D.int := by simp [natsD, List.map_map, Function.comp_def]
theorem ones_ok {L : Tx} (h : ∀ c ∈ L, c ∈ SMALL) : ∀ w ∈ L.map fun c => [c], okTx w := by
  intro w hw
  obtain ⟨c, hc, rfl⟩ := List.mem_map.mp hw
  refine okTx_small ?_
  unfold madeOf
  rw [List.all_eq_true]
  intro x hx
  have e : x = c := by simpa using hx
  subst e
  exact decide_eq_true (h x hc)
theorem fin_any (M : Mch) (o : Option Nat) : ((natsD M.E).any fun y => eqFD y (optD o)) = M.fin o := by
  cases o with
  | none =>
    have : ∀ l : List Nat, ((natsD l).any fun y => eqFD y .non) = false := by
      intro l
      induction l with
      | nil => rfl
      | cons a l ih => show (eqFD (.int a) .non || ((natsD l).any fun y => eqFD y .non)) = _; rw [ih]; rfl
    exact this M.E
  | some q =>
    unfold Mch.fin natsD
    rw [Bool.eq_iff_iff, List.any_eq_true, decide_eq_true_eq]
    constructor
    · rintro ⟨d, hd, e⟩
      obtain ⟨a, ha, rfl⟩ := List.mem_map.mp hd
      have e : ((a : Int) == (q : Int)) = true := e
      have : a = q := by have := eq_of_beq e; omega
      exact this ▸ ha
    · intro h
      exact ⟨_, List.mem_map.mpr ⟨q, h, rfl⟩, by show ((q : Int) == (q : Int)) = true; simp⟩
theorem flat_nats (l : List Nat) : (natsD l).all flatD = true := by
  unfold natsD
  rw [List.all_map]
  simp [Function.comp_def, flatD]
theorem flat_opt (o : Option Nat) : flatD (optD o) = true := by cases o <;> rfl
theorem dIn_ends {M : Mch} {o : Option Nat} {h : DHp} {K : DK} (k : K (.bl (M.fin o)) h) : dIn false (optD o) (.tup (natsD M.E)) h K := by
  refine .inl ⟨flat_opt o, flat_nats _, ?_⟩
  simp only [fin_any, Bool.false_xor]
  exact k
def sp_are_letters : SpD := fun ds h Q _ => match ds with
  | [.str L] => (∀ c ∈ L, c ∈ SMALL) ∧ L.Pairwise (· < ·) ∧ 1 ≤ L.length ∧ L.length ≤ 3 ∧ Q (.bl true) h
  | _ => False
/-- are_letters(thing); slots: thing 0, sign 1 -/
def N_are_letters : List Str := ["thing", "sign"]
def m_are_letters : MS := dSeq (dIfS (dOr (dNot (dTest (dIsA .str (dVar 0)))) (dNot (dTest (dChain dLe dLe (dC (.int 1)) (dCB bLen (dCons (dVar 0) (dNil))) (dC (.int 3)))))) (dRet (dC (.bl false))) (dNext)) (dRet (dAndV (dOp dEq (dCB bList (dCons (dVar 0) (dNil))) (dSortSet (dVar 0))) (dCB (bAll fun bs => bs.all id) (dCons (dLc (dISeq (dVar 0)) (.nm 1) (dYes) (dOp (dIn false) (dVar 1) (dC (.str [97, 98, 99, 100, 101, 102, 103, 104, 105, 106, 107, 108, 109, 110, 111, 112, 113, 114, 115, 116, 117, 118, 119, 120, 121, 122]))) [1]) (dNil)))))
theorem st_are_letters (a0 : D) : startD N_are_letters [a0] = [some a0, none] := rfl
theorem ok_are_letters (ds : List D) (h : DHp) (Q : DK) (E : DX) (hn : ds.length = 1) (q : sp_are_letters ds h Q E) : m_are_letters (endsD Q E) (startD N_are_letters ds) h := by
  have hs := sizeLine_eq
  match ds, q with
  | [.str L], ⟨hS, hP, h1, h3, q⟩ =>
    simp only [m_are_letters, st_are_letters, forall_const, true_implies, false_implies, implies_true, and_true, true_and, reduceCtorEq, Bool.not_true, Bool.not_false, Bool.true_xor, Bool.false_xor, Option.some.injEq, exists_eq_left', put_same, onB_bl, dSeq, dNext, dBreak, dDrop, dRet, dRetN, dIfS, dName, dgNil, dgCons, dgTup, dAsg, dPar, dPar3, dSetI, dgSub, dRaise, dVar, dC, dOp, dTest, dAnd, dOr, dNot, dAndV, dOrV, dNotV, dIf, dNil, dCons, dTup, dLst, dCall, dCB, dMt, dMt0, dInC, dIxC, dChain, dNeg, dNoPart, dPart, dSl, exE, dIsA, dCat, catchD, subE, Ex.ix, endsD, dLc, dISeq, dIRng1, dIRng2, dIEnum, dFor, dDcT, dDcK, dCallV, mStarts_str, mIndex_str, mUpper_str, dSortSet, dListZip, dListRng, dDnew, dLc2, List.getElem?_cons_zero, List.getElem?_cons_succ, List.set_cons_zero, List.set_cons_succ, onL_lst, isA_non, isA_int_int, isA_bool_int, isA_str_int, isA_tup_int, isA_lst_int, isA_int_str, isA_bool_str, isA_str_str, isA_tup_str, isA_lst_str, isA_int_tup, isA_bool_tup, isA_str_tup, isA_tup_tup, isA_lst_tup, isA_int_bl, isA_bool_bl, isA_str_bl, isA_tup_bl, isA_lst_bl, dAdd_int, dAdd_str, dAdd_tup, dAdd_ref, dSub_int, dLt_int, dLe_int, dGt_int, dGe_int, dMul_int, dMul_str, dMul_ref, dMod_int, dFdiv_int, dPow_int, dIsN_, dNotN_, isNon_int, isNon_non, dEq_str, dEq_int, dNe_str, dNe_int, dIn_sign, dIx_str, dIx_tup, dIx_scr, dIx_ref, dCut_str, dCut_tup, dCut_scr, dCut_ref, bLen_str, bLen_tup, bLen_ref, bInt_int, bInt_bl, bTup_tup, bTup_ref, bList_str, bList_tup, bList_ref, tyD_str, mAppend_ref, mExtend_ref, tyL, dSetL_ref, mJoin_ref, bMin_ref, bMax_ref, atI_0, atI_1, atI_2]
    refine ⟨by omega, fun _ => ⟨fun z => by simp at z; omega, fun _ => ⟨by omega, fun p np => ⟨by omega, fun cs hp hm p2 np2 => ?_⟩⟩⟩, fun z => by simp at z; omega⟩
    have e : cs = L := asc_same (fun a => Nat.lt_irrefl a) (fun a b h => by omega) hp hP hm
    subst e
    refine dEq_strs (ws := cs.map fun c => [c]) (vs := cs.map fun c => [c]) (by rw [put_old put_same np2, map_signs]) (by rw [put_same, map_signs]) (ones_ok hS) (ones_ok hS) ?_
    simp only [decide_true, onB_bl]
    refine ⟨fun _ => lc_all True.intro (by rw [List.length_map]; omega) (fun d hd => ?_) fun r o nr => ?_, fun z => by cases z⟩
    · obtain ⟨c, hc, rfl⟩ := List.mem_map.mp hd
      refine ⟨_, rfl, fun K k => ?_⟩
      show K (.bl (xor false (decide (c ∈ SMALL)))) _
      simpa [hS c hc] using k
    · exact fgt_less (less_new (less_new (less_new Less.refl np) np2) nr) q
def sp_are_ends : SpD := fun ds h Q _ => match ds with
  | [.tup es, .int n] => ∃ E : List Nat, es = natsD E ∧ E.Pairwise (· < ·) ∧ (∀ e ∈ E, (e : Int) < n) ∧ n ≤ 6 ∧ Q (.bl true) h
  | _ => False
/-- are_ends(thing, many); slots: thing 0, many 1, one 2 -/
def N_are_ends : List Str := ["thing", "many", "one"]
def m_are_ends : MS := dSeq (dIfS (dOr (dNot (dTest (dIsA .tup (dVar 0)))) (dNot (dTest (dCB (bAll fun bs => bs.all id) (dCons (dLc (dISeq (dVar 0)) (.nm 2) (dYes) (dCall 3 sp_is_within (dCons (dVar 2) (dCons (dC (.int 0)) (dCons (dOp dSub (dVar 1) (dC (.int 1))) (dNil))))) [2]) (dNil)))))) (dRet (dC (.bl false))) (dNext)) (dRet (dOp dEq (dCB bList (dCons (dVar 0) (dNil))) (dSortSet (dVar 0))))
theorem st_are_ends (a0 a1 : D) : startD N_are_ends [a0, a1] = [some a0, some a1, none] := rfl
theorem ok_are_ends (ds : List D) (h : DHp) (Q : DK) (E : DX) (hn : ds.length = 2) (q : sp_are_ends ds h Q E) : m_are_ends (endsD Q E) (startD N_are_ends ds) h := by
  have hs := sizeLine_eq
  match ds, q with
  | [.tup es, .int n], ⟨E, e, hP, hE, n6, q⟩ =>
    subst e
    simp only [m_are_ends, st_are_ends, forall_const, true_implies, false_implies, implies_true, and_true, true_and, reduceCtorEq, Bool.not_true, Bool.not_false, Bool.true_xor, Bool.false_xor, Option.some.injEq, exists_eq_left', put_same, onB_bl, dSeq, dNext, dBreak, dDrop, dRet, dRetN, dIfS, dName, dgNil, dgCons, dgTup, dAsg, dPar, dPar3, dSetI, dgSub, dRaise, dVar, dC, dOp, dTest, dAnd, dOr, dNot, dAndV, dOrV, dNotV, dIf, dNil, dCons, dTup, dLst, dCall, dCB, dMt, dMt0, dInC, dIxC, dChain, dNeg, dNoPart, dPart, dSl, exE, dIsA, dCat, catchD, subE, Ex.ix, endsD, dLc, dISeq, dIRng1, dIRng2, dIEnum, dFor, dDcT, dDcK, dCallV, mStarts_str, mIndex_str, mUpper_str, dSortSet, dListZip, dListRng, dDnew, dLc2, List.getElem?_cons_zero, List.getElem?_cons_succ, List.set_cons_zero, List.set_cons_succ, onL_lst, isA_non, isA_int_int, isA_bool_int, isA_str_int, isA_tup_int, isA_lst_int, isA_int_str, isA_bool_str, isA_str_str, isA_tup_str, isA_lst_str, isA_int_tup, isA_bool_tup, isA_str_tup, isA_tup_tup, isA_lst_tup, isA_int_bl, isA_bool_bl, isA_str_bl, isA_tup_bl, isA_lst_bl, dAdd_int, dAdd_str, dAdd_tup, dAdd_ref, dSub_int, dLt_int, dLe_int, dGt_int, dGe_int, dMul_int, dMul_str, dMul_ref, dMod_int, dFdiv_int, dPow_int, dIsN_, dNotN_, isNon_int, isNon_non, dEq_str, dEq_int, dNe_str, dNe_int, dIn_sign, dIx_str, dIx_tup, dIx_scr, dIx_ref, dCut_str, dCut_tup, dCut_scr, dCut_ref, bLen_str, bLen_tup, bLen_ref, bInt_int, bInt_bl, bTup_tup, bTup_ref, bList_str, bList_tup, bList_ref, tyD_str, mAppend_ref, mExtend_ref, tyL, dSetL_ref, mJoin_ref, bMin_ref, bMax_ref, atI_0, atI_1, atI_2]
    have hEl : E.length ≤ 6 := by
      have := asc_len E 0 6 hP fun x hx => ⟨Nat.zero_le _, by have := hE x hx; omega⟩
      omega
    refine lc_all True.intro (by simp [natsD]; omega) (fun d hd => ?_) fun r o nr => ?_
    · obtain ⟨c, hc, rfl⟩ := List.mem_map.mp hd
      refine ⟨_, rfl, fun K k => ?_⟩
      refine ⟨rfl, plain_i, ?_⟩
      have := hE c hc
      have e : within (.int (c : Int)) 0 (n - 1) = true := by simp only [within, Bool.and_eq_true, decide_eq_true_eq]; omega
      rw [e]
      exact k
    · simp only [onB_bl]
      refine ⟨(fun z => by cases z), fun _ p np => ⟨E.map fun (e : Nat) => (e : Int), natsD_int E, by rw [List.length_map]; omega, fun ms hp hm p2 np2 => ?_⟩⟩
      have hP2 : (E.map fun (e : Nat) => (e : Int)).Pairwise (· < ·) := by
        rw [List.pairwise_map]
        exact hP.imp fun {a b} (l : a < b) => by omega
      have e : ms = E.map fun (e : Nat) => (e : Int) := asc_same (fun a => Int.lt_irrefl a) (fun a b h => by omega) hp hP2 hm
      subst e
      refine dEq_ints (by rw [put_old put_same np2, natsD_int]) put_same ?_
      simp only [decide_true]
      exact fgt_less (less_new (less_new (less_new Less.refl nr) np) np2) q
def sp_is_state : SpD := fun ds h Q _ => match ds with
  | [.tup rs, .str L, .int n] => ∃ r : List (Option Nat), rs = r.map optD ∧ r.length = L.length ∧ L.length ≤ 3 ∧ (∀ q, some q ∈ r → (q : Int) < n) ∧ Q (.bl true) h
  | _ => False
/-- is_state(thing, letters, many); slots: thing 0, letters 1, many 2, after 3 -/
def N_is_state : List Str := ["thing", "letters", "many", "after"]
def m_is_state : MS := dSeq (dIfS (dOr (dNot (dTest (dIsA .tup (dVar 0)))) (dTest (dOp dNe (dCB bLen (dCons (dVar 0) (dNil))) (dCB bLen (dCons (dVar 1) (dNil)))))) (dRet (dC (.bl false))) (dNext)) (dRet (dCB (bAll fun bs => bs.all id) (dCons (dLc (dISeq (dVar 0)) (.nm 3) (dYes) (dOrV (dOp dIsN (dVar 3) (dC .non)) (dCall 3 sp_is_within (dCons (dVar 3) (dCons (dC (.int 0)) (dCons (dOp dSub (dVar 2) (dC (.int 1))) (dNil)))))) [3]) (dNil))))
theorem st_is_state (a0 a1 a2 : D) : startD N_is_state [a0, a1, a2] = [some a0, some a1, some a2, none] := rfl
theorem ok_is_state (ds : List D) (h : DHp) (Q : DK) (E : DX) (hn : ds.length = 3) (q : sp_is_state ds h Q E) : m_is_state (endsD Q E) (startD N_is_state ds) h := by
  have hs := sizeLine_eq
  match ds, q with
  | [.tup rs, .str L, .int n], ⟨r, e, hl, h3, hr, q⟩ =>
    subst e
    simp only [m_is_state, st_is_state, forall_const, true_implies, false_implies, implies_true, and_true, true_and, reduceCtorEq, Bool.not_true, Bool.not_false, Bool.true_xor, Bool.false_xor, Option.some.injEq, exists_eq_left', put_same, onB_bl, dSeq, dNext, dBreak, dDrop, dRet, dRetN, dIfS, dName, dgNil, dgCons, dgTup, dAsg, dPar, dPar3, dSetI, dgSub, dRaise, dVar, dC, dOp, dTest, dAnd, dOr, dNot, dAndV, dOrV, dNotV, dIf, dNil, dCons, dTup, dLst, dCall, dCB, dMt, dMt0, dInC, dIxC, dChain, dNeg, dNoPart, dPart, dSl, exE, dIsA, dCat, catchD, subE, Ex.ix, endsD, dLc, dISeq, dIRng1, dIRng2, dIEnum, dFor, dDcT, dDcK, dCallV, mStarts_str, mIndex_str, mUpper_str, dSortSet, dListZip, dListRng, dDnew, dLc2, List.getElem?_cons_zero, List.getElem?_cons_succ, List.set_cons_zero, List.set_cons_succ, onL_lst, isA_non, isA_int_int, isA_bool_int, isA_str_int, isA_tup_int, isA_lst_int, isA_int_str, isA_bool_str, isA_str_str, isA_tup_str, isA_lst_str, isA_int_tup, isA_bool_tup, isA_str_tup, isA_tup_tup, isA_lst_tup, isA_int_bl, isA_bool_bl, isA_str_bl, isA_tup_bl, isA_lst_bl, dAdd_int, dAdd_str, dAdd_tup, dAdd_ref, dSub_int, dLt_int, dLe_int, dGt_int, dGe_int, dMul_int, dMul_str, dMul_ref, dMod_int, dFdiv_int, dPow_int, dIsN_, dNotN_, isNon_int, isNon_non, dEq_str, dEq_int, dNe_str, dNe_int, dIn_sign, dIx_str, dIx_tup, dIx_scr, dIx_ref, dCut_str, dCut_tup, dCut_scr, dCut_ref, bLen_str, bLen_tup, bLen_ref, bInt_int, bInt_bl, bTup_tup, bTup_ref, bList_str, bList_tup, bList_ref, tyD_str, mAppend_ref, mExtend_ref, tyL, dSetL_ref, mJoin_ref, bMin_ref, bMax_ref, atI_0, atI_1, atI_2]
    refine ⟨by omega, fun z => by simp [hl] at z, fun _ => ?_⟩
    refine lc_all True.intro (by rw [List.length_map]; omega) (fun d hd => ?_) fun r o nr => fgt_less (less_new Less.refl nr) q
    obtain ⟨o, ho, rfl⟩ := List.mem_map.mp hd
    refine ⟨_, rfl, fun K k => ?_⟩
    cases o with
    | none => exact ⟨rfl, fun _ => k, fun z => by cases z⟩
    | some a =>
      refine ⟨rfl, (fun z => by cases z), fun _ => ⟨rfl, plain_i, ?_⟩⟩
      have := hr a ho
      have e : within (.int (a : Int)) 0 (n - 1) = true := by simp only [within, Bool.and_eq_true, decide_eq_true_eq]; omega
      show K (.bl (within (.int (a : Int)) 0 (n - 1))) h
      rw [e]
      exact k
def sp_is_machine : SpD := fun ds h Q _ => ∃ M : Mch, ds = [mchD M] ∧ M.ok ∧ Q (.bl true) h
/-- is_machine(thing); slots: thing 0, letters 1, states 2, ends 3, one 4 -/
def N_is_machine : List Str := ["thing", "letters", "states", "ends", "one"]
def m_is_machine : MS := dSeq (dIfS (dOr (dNot (dTest (dIsA .tup (dVar 0)))) (dOr (dTest (dOp dNe (dCB bLen (dCons (dVar 0) (dNil))) (dC (.int 3)))) (dNot (dTest (dCall 1 sp_are_letters (dCons (dOp dIx (dVar 0) (dC (.int 0))) (dNil))))))) (dRet (dC (.bl false))) (dNext)) (dSeq (dAsg (dVar 0) (dgTup 3 (dgCons (dName 1) (dgCons (dName 2) (dgCons (dName 3) (dgNil)))))) (dSeq (dIfS (dOr (dNot (dTest (dIsA .tup (dVar 2)))) (dNot (dTest (dChain dLe dLe (dC (.int 1)) (dCB bLen (dCons (dVar 2) (dNil))) (dC (.int 6)))))) (dRet (dC (.bl false))) (dNext)) (dRet (dAndV (dCB (bAll fun bs => bs.all id) (dCons (dLc (dISeq (dVar 2)) (.nm 4) (dYes) (dCall 3 sp_is_state (dCons (dVar 4) (dCons (dVar 1) (dCons (dCB bLen (dCons (dVar 2) (dNil))) (dNil))))) [4]) (dNil))) (dCall 2 sp_are_ends (dCons (dVar 3) (dCons (dCB bLen (dCons (dVar 2) (dNil))) (dNil))))))))
theorem st_is_machine (a0 : D) : startD N_is_machine [a0] = [some a0, none, none, none, none] := rfl
theorem ok_is_machine (ds : List D) (h : DHp) (Q : DK) (E : DX) (hn : ds.length = 1) (q : sp_is_machine ds h Q E) : m_is_machine (endsD Q E) (startD N_is_machine ds) h := by
  have hs := sizeLine_eq
  obtain ⟨M, rfl, ok, q⟩ := q
  have e : mchD M = .tup [.str M.L, .tup (M.R.map rowD), .tup (natsD M.E)] := rfl
  rw [e]
  simp only [m_is_machine, st_is_machine, forall_const, true_implies, false_implies, implies_true, and_true, true_and, reduceCtorEq, Bool.not_true, Bool.not_false, Bool.true_xor, Bool.false_xor, Option.some.injEq, exists_eq_left', put_same, onB_bl, dSeq, dNext, dBreak, dDrop, dRet, dRetN, dIfS, dName, dgNil, dgCons, dgTup, dAsg, dPar, dPar3, dSetI, dgSub, dRaise, dVar, dC, dOp, dTest, dAnd, dOr, dNot, dAndV, dOrV, dNotV, dIf, dNil, dCons, dTup, dLst, dCall, dCB, dMt, dMt0, dInC, dIxC, dChain, dNeg, dNoPart, dPart, dSl, exE, dIsA, dCat, catchD, subE, Ex.ix, endsD, dLc, dISeq, dIRng1, dIRng2, dIEnum, dFor, dDcT, dDcK, dCallV, mStarts_str, mIndex_str, mUpper_str, dSortSet, dListZip, dListRng, dDnew, dLc2, List.getElem?_cons_zero, List.getElem?_cons_succ, List.set_cons_zero, List.set_cons_succ, onL_lst, isA_non, isA_int_int, isA_bool_int, isA_str_int, isA_tup_int, isA_lst_int, isA_int_str, isA_bool_str, isA_str_str, isA_tup_str, isA_lst_str, isA_int_tup, isA_bool_tup, isA_str_tup, isA_tup_tup, isA_lst_tup, isA_int_bl, isA_bool_bl, isA_str_bl, isA_tup_bl, isA_lst_bl, dAdd_int, dAdd_str, dAdd_tup, dAdd_ref, dSub_int, dLt_int, dLe_int, dGt_int, dGe_int, dMul_int, dMul_str, dMul_ref, dMod_int, dFdiv_int, dPow_int, dIsN_, dNotN_, isNon_int, isNon_non, dEq_str, dEq_int, dNe_str, dNe_int, dIn_sign, dIx_str, dIx_tup, dIx_scr, dIx_ref, dCut_str, dCut_tup, dCut_scr, dCut_ref, bLen_str, bLen_tup, bLen_ref, bInt_int, bInt_bl, bTup_tup, bTup_ref, bList_str, bList_tup, bList_ref, tyD_str, mAppend_ref, mExtend_ref, tyL, dSetL_ref, mJoin_ref, bMin_ref, bMax_ref, atI_0, atI_1, atI_2]
  refine ⟨fun z => by simp at z, fun _ => ⟨rfl, ok.small, ok.asc, ok.l1, ok.l3, (fun z => by cases z), fun _ => ⟨rfl, fun _ => ⟨fun z => ?_, fun _ => ?_⟩, fun z => ?_⟩⟩⟩
  · have := ok.r6; simp at z; omega
  · refine lc_all True.intro (by rw [List.length_map]; have := ok.r6; omega) (fun d hd => ?_) fun r o nr => ?_
    · obtain ⟨row, hr, rfl⟩ := List.mem_map.mp hd
      have hrow := ok.row row hr
      refine ⟨_, rfl, fun K k => ?_⟩
      exact ⟨_, rfl, rfl, row, rfl, hrow.1, ok.l3, fun q hq => by have := hrow.2 q hq; simp; omega, k⟩
    · simp only [onB_bl]
      exact ⟨fun _ => ⟨rfl, M.E, rfl, ok.easc, fun e he => by have := ok.ends e he; simp; omega, by have := ok.r6; simp; omega, fgt_less (less_new Less.refl nr) q⟩, fun z => by cases z⟩
  · have := ok.r1; simp at z; omega
def sp_need_machine : SpD := fun ds h Q _ => ∃ M : Mch, ds = [mchD M] ∧ M.ok ∧ Q .non h
/-- need_machine(thing); slots: thing 0 -/
def N_need_machine : List Str := ["thing"]
def m_need_machine : MS := dIfS (dNot (dTest (dCall 1 sp_is_machine (dCons (dVar 0) (dNil))))) (dRaise .machine) (dNext)
theorem st_need_machine (a0 : D) : startD N_need_machine [a0] = [some a0] := rfl
theorem ok_need_machine (ds : List D) (h : DHp) (Q : DK) (E : DX) (hn : ds.length = 1) (q : sp_need_machine ds h Q E) : m_need_machine (endsD Q E) (startD N_need_machine ds) h := by
  obtain ⟨M, rfl, ok, q⟩ := q
  simp only [m_need_machine, st_need_machine, forall_const, true_implies, false_implies, implies_true, and_true, true_and, reduceCtorEq, Bool.not_true, Bool.not_false, Bool.true_xor, Bool.false_xor, Option.some.injEq, exists_eq_left', put_same, onB_bl, dSeq, dNext, dBreak, dDrop, dRet, dRetN, dIfS, dName, dgNil, dgCons, dgTup, dAsg, dPar, dPar3, dSetI, dgSub, dRaise, dVar, dC, dOp, dTest, dAnd, dOr, dNot, dAndV, dOrV, dNotV, dIf, dNil, dCons, dTup, dLst, dCall, dCB, dMt, dMt0, dInC, dIxC, dChain, dNeg, dNoPart, dPart, dSl, exE, dIsA, dCat, catchD, subE, Ex.ix, endsD, dLc, dISeq, dIRng1, dIRng2, dIEnum, dFor, dDcT, dDcK, dCallV, mStarts_str, mIndex_str, mUpper_str, dSortSet, dListZip, dListRng, dDnew, dLc2, List.getElem?_cons_zero, List.getElem?_cons_succ, List.set_cons_zero, List.set_cons_succ, onL_lst, isA_non, isA_int_int, isA_bool_int, isA_str_int, isA_tup_int, isA_lst_int, isA_int_str, isA_bool_str, isA_str_str, isA_tup_str, isA_lst_str, isA_int_tup, isA_bool_tup, isA_str_tup, isA_tup_tup, isA_lst_tup, isA_int_bl, isA_bool_bl, isA_str_bl, isA_tup_bl, isA_lst_bl, dAdd_int, dAdd_str, dAdd_tup, dAdd_ref, dSub_int, dLt_int, dLe_int, dGt_int, dGe_int, dMul_int, dMul_str, dMul_ref, dMod_int, dFdiv_int, dPow_int, dIsN_, dNotN_, isNon_int, isNon_non, dEq_str, dEq_int, dNe_str, dNe_int, dIn_sign, dIx_str, dIx_tup, dIx_scr, dIx_ref, dCut_str, dCut_tup, dCut_scr, dCut_ref, bLen_str, bLen_tup, bLen_ref, bInt_int, bInt_bl, bTup_tup, bTup_ref, bList_str, bList_tup, bList_ref, tyD_str, mAppend_ref, mExtend_ref, tyL, dSetL_ref, mJoin_ref, bMin_ref, bMax_ref, atI_0, atI_1, atI_2]
  exact ⟨rfl, M, rfl, ok, (fun z => by cases z), fun _ => fgt_here q⟩
def sp_gone_on : SpD := fun ds h Q _ => ∃ (M : Mch) (a : Nat) (w : Tx), ds = [mchD M, .int a, .str w] ∧ M.ok ∧ a < M.R.length ∧ (∀ c ∈ w, c ∈ M.L) ∧ w.length ≤ 10000 ∧ Q (optD (M.run (some a) w)) h
/-- gone_on(machine, state, word); slots: machine 0, state 1, word 2, letter 3 -/
def N_gone_on : List Str := ["machine", "state", "word", "letter"]
def m_gone_on : MS := dSeq (dFor (dISeq (dVar 2)) (dName 3) (dSeq (dAsg (dOp dIx (dOp dIx (dOp dIx (dVar 0) (dC (.int 1))) (dVar 1)) (dMt "str" mIndex (dOp dIx (dVar 0) (dC (.int 0))) (dCons (dVar 3) (dNil)))) (dName 1)) (dIfS (dTest (dOp dIsN (dVar 1) (dC .non))) (dRet (dC .non)) (dNext)))) (dRet (dVar 1))
theorem st_gone_on (a0 a1 a2 : D) : startD N_gone_on [a0, a1, a2] = [some a0, some a1, some a2, none] := rfl
theorem ok_gone_on (ds : List D) (h : DHp) (Q : DK) (E : DX) (hn : ds.length = 3) (q : sp_gone_on ds h Q E) : m_gone_on (endsD Q E) (startD N_gone_on ds) h := by
  have hs := sizeLine_eq
  obtain ⟨M, a, w, rfl, ok, ha, hw, hz, q⟩ := q
  have e : mchD M = .tup [.str M.L, .tup (M.R.map rowD), .tup (natsD M.E)] := rfl
  simp only [m_gone_on, st_gone_on, forall_const, true_implies, false_implies, implies_true, and_true, true_and, reduceCtorEq, Bool.not_true, Bool.not_false, Bool.true_xor, Bool.false_xor, Option.some.injEq, exists_eq_left', put_same, onB_bl, dSeq, dNext, dBreak, dDrop, dRet, dRetN, dIfS, dName, dgNil, dgCons, dgTup, dAsg, dPar, dPar3, dSetI, dgSub, dRaise, dVar, dC, dOp, dTest, dAnd, dOr, dNot, dAndV, dOrV, dNotV, dIf, dNil, dCons, dTup, dLst, dCall, dCB, dMt, dMt0, dInC, dIxC, dChain, dNeg, dNoPart, dPart, dSl, exE, dIsA, dCat, catchD, subE, Ex.ix, endsD, dLc, dISeq, dIRng1, dIRng2, dIEnum, dFor, dDcT, dDcK, dCallV, mStarts_str, mIndex_str, mUpper_str, dSortSet, dListZip, dListRng, dDnew, dLc2, List.getElem?_cons_zero, List.getElem?_cons_succ, List.set_cons_zero, List.set_cons_succ, onL_lst, isA_non, isA_int_int, isA_bool_int, isA_str_int, isA_tup_int, isA_lst_int, isA_int_str, isA_bool_str, isA_str_str, isA_tup_str, isA_lst_str, isA_int_tup, isA_bool_tup, isA_str_tup, isA_tup_tup, isA_lst_tup, isA_int_bl, isA_bool_bl, isA_str_bl, isA_tup_bl, isA_lst_bl, dAdd_int, dAdd_str, dAdd_tup, dAdd_ref, dSub_int, dLt_int, dLe_int, dGt_int, dGe_int, dMul_int, dMul_str, dMul_ref, dMod_int, dFdiv_int, dPow_int, dIsN_, dNotN_, isNon_int, isNon_non, dEq_str, dEq_int, dNe_str, dNe_int, dIn_sign, dIx_str, dIx_tup, dIx_scr, dIx_ref, dCut_str, dCut_tup, dCut_scr, dCut_ref, bLen_str, bLen_tup, bLen_ref, bInt_int, bInt_bl, bTup_tup, bTup_ref, bList_str, bList_tup, bList_ref, tyD_str, mAppend_ref, mExtend_ref, tyL, dSetL_ref, mJoin_ref, bMin_ref, bMax_ref, atI_0, atI_1, atI_2]
  refine forB_inv (fun i δ h' => h' = h ∧ i ≤ w.length ∧ ∃ (b : Nat) (s3 : Option D), δ = [some (mchD M), some (.int (b : Int)), some (.str w), s3] ∧ b < M.R.length ∧ M.run (some b) (w.drop i) = M.run (some a) w)
    ⟨rfl, Nat.zero_le _, a, _, rfl, ha, rfl⟩ (fun _ _ _ _ => True.intro) ?_ ?_
  · rintro δ h' ⟨rfl, _, b, s3, rfl, hb, e⟩
    rw [List.length_map, List.drop_length] at e
    rw [← e] at q
    simp only [forall_const, true_implies, false_implies, implies_true, and_true, true_and, reduceCtorEq, Bool.not_true, Bool.not_false, Bool.true_xor, Bool.false_xor, Option.some.injEq, exists_eq_left', put_same, onB_bl, dSeq, dNext, dBreak, dDrop, dRet, dRetN, dIfS, dName, dgNil, dgCons, dgTup, dAsg, dPar, dPar3, dSetI, dgSub, dRaise, dVar, dC, dOp, dTest, dAnd, dOr, dNot, dAndV, dOrV, dNotV, dIf, dNil, dCons, dTup, dLst, dCall, dCB, dMt, dMt0, dInC, dIxC, dChain, dNeg, dNoPart, dPart, dSl, exE, dIsA, dCat, catchD, subE, Ex.ix, endsD, dLc, dISeq, dIRng1, dIRng2, dIEnum, dFor, dDcT, dDcK, dCallV, mStarts_str, mIndex_str, mUpper_str, dSortSet, dListZip, dListRng, dDnew, dLc2, List.getElem?_cons_zero, List.getElem?_cons_succ, List.set_cons_zero, List.set_cons_succ, onL_lst, isA_non, isA_int_int, isA_bool_int, isA_str_int, isA_tup_int, isA_lst_int, isA_int_str, isA_bool_str, isA_str_str, isA_tup_str, isA_lst_str, isA_int_tup, isA_bool_tup, isA_str_tup, isA_tup_tup, isA_lst_tup, isA_int_bl, isA_bool_bl, isA_str_bl, isA_tup_bl, isA_lst_bl, dAdd_int, dAdd_str, dAdd_tup, dAdd_ref, dSub_int, dLt_int, dLe_int, dGt_int, dGe_int, dMul_int, dMul_str, dMul_ref, dMod_int, dFdiv_int, dPow_int, dIsN_, dNotN_, isNon_int, isNon_non, dEq_str, dEq_int, dNe_str, dNe_int, dIn_sign, dIx_str, dIx_tup, dIx_scr, dIx_ref, dCut_str, dCut_tup, dCut_scr, dCut_ref, bLen_str, bLen_tup, bLen_ref, bInt_int, bInt_bl, bTup_tup, bTup_ref, bList_str, bList_tup, bList_ref, tyD_str, mAppend_ref, mExtend_ref, tyL, dSetL_ref, mJoin_ref, bMin_ref, bMax_ref, atI_0, atI_1, atI_2]
    exact fgt_here q
  · rintro i d δ h' hd ⟨rfl, hi, b, s3, rfl, hb, er⟩
    rw [List.getElem?_map] at hd
    cases ec : w[i]? with
    | none => rw [ec] at hd; cases hd
    | some c =>
      rw [ec] at hd
      cases hd
      obtain ⟨hlt, ec'⟩ := List.getElem?_eq_some_iff.mp ec
      have hc : c ∈ M.L := hw c (List.mem_of_getElem? ec)
      obtain ⟨r, hr, e2, e3, _⟩ := row_at ok hb
      have hidx : M.L.idxOf c < M.L.length := List.idxOf_lt_length_iff.mpr hc
      have est : r[M.L.idxOf c]? = some (M.step b c) := by
        unfold Mch.step
        rw [e2, List.getD_eq_getElem?_getD, List.getElem?_eq_getElem (by omega)]
        rfl
      have edrop : w.drop i = c :: w.drop (i + 1) := by rw [← ec']; exact List.drop_eq_getElem_cons hlt
      rw [edrop] at er
      have er : M.run (M.step b c) (w.drop (i + 1)) = M.run (some a) w := er
      rw [e]
      simp only [forall_const, true_implies, false_implies, implies_true, and_true, true_and, reduceCtorEq, Bool.not_true, Bool.not_false, Bool.true_xor, Bool.false_xor, Option.some.injEq, exists_eq_left', put_same, onB_bl, dSeq, dNext, dBreak, dDrop, dRet, dRetN, dIfS, dName, dgNil, dgCons, dgTup, dAsg, dPar, dPar3, dSetI, dgSub, dRaise, dVar, dC, dOp, dTest, dAnd, dOr, dNot, dAndV, dOrV, dNotV, dIf, dNil, dCons, dTup, dLst, dCall, dCB, dMt, dMt0, dInC, dIxC, dChain, dNeg, dNoPart, dPart, dSl, exE, dIsA, dCat, catchD, subE, Ex.ix, endsD, dLc, dISeq, dIRng1, dIRng2, dIEnum, dFor, dDcT, dDcK, dCallV, mStarts_str, mIndex_str, mUpper_str, dSortSet, dListZip, dListRng, dDnew, dLc2, List.getElem?_cons_zero, List.getElem?_cons_succ, List.set_cons_zero, List.set_cons_succ, onL_lst, isA_non, isA_int_int, isA_bool_int, isA_str_int, isA_tup_int, isA_lst_int, isA_int_str, isA_bool_str, isA_str_str, isA_tup_str, isA_lst_str, isA_int_tup, isA_bool_tup, isA_str_tup, isA_tup_tup, isA_lst_tup, isA_int_bl, isA_bool_bl, isA_str_bl, isA_tup_bl, isA_lst_bl, dAdd_int, dAdd_str, dAdd_tup, dAdd_ref, dSub_int, dLt_int, dLe_int, dGt_int, dGe_int, dMul_int, dMul_str, dMul_ref, dMod_int, dFdiv_int, dPow_int, dIsN_, dNotN_, isNon_int, isNon_non, dEq_str, dEq_int, dNe_str, dNe_int, dIn_sign, dIx_str, dIx_tup, dIx_scr, dIx_ref, dCut_str, dCut_tup, dCut_scr, dCut_ref, bLen_str, bLen_tup, bLen_ref, bInt_int, bInt_bl, bTup_tup, bTup_ref, bList_str, bList_tup, bList_ref, tyD_str, mAppend_ref, mExtend_ref, tyL, dSetL_ref, mJoin_ref, bMin_ref, bMax_ref, atI_0, atI_1, atI_2]
      refine ⟨.tup (r.map optD), atI_lt (by rw [List.getElem?_map, hr]; rfl), hc, optD (M.step b c), atI_lt (by rw [List.getElem?_map, est]; rfl), ?_⟩
      cases es : M.step b c with
      | none =>
        rw [es] at er
        rw [run_none] at er
        refine ⟨fun _ => ?_, fun z => by cases z⟩
        rw [← er] at q
        exact fgt_here q
      | some b' =>
        rw [es] at er
        exact ⟨(fun z => by cases z), fun _ => ⟨rfl, hlt, b', _, rfl, step_lt ok hb es, er⟩⟩
def sp_raw_has : SpD := fun ds h Q _ => ∃ (M : Mch) (w : Tx), ds = [mchD M, .str w] ∧ M.ok ∧ (∀ c ∈ w, c ∈ M.L) ∧ w.length ≤ 10000 ∧ Q (.bl (M.has w)) h
/-- raw_has(machine, word); slots: machine 0, word 1 -/
def N_raw_has : List Str := ["machine", "word"]
def m_raw_has : MS := dRet (dOp (dIn false) (dCall 3 sp_gone_on (dCons (dVar 0) (dCons (dC (.int 0)) (dCons (dVar 1) (dNil))))) (dOp dIx (dVar 0) (dC (.int 2))))
theorem st_raw_has (a0 a1 : D) : startD N_raw_has [a0, a1] = [some a0, some a1] := rfl
theorem ok_raw_has (ds : List D) (h : DHp) (Q : DK) (E : DX) (hn : ds.length = 2) (q : sp_raw_has ds h Q E) : m_raw_has (endsD Q E) (startD N_raw_has ds) h := by
  have hs := sizeLine_eq
  obtain ⟨M, w, rfl, ok, hw, hz, q⟩ := q
  simp only [m_raw_has, st_raw_has, forall_const, true_implies, false_implies, implies_true, and_true, true_and, reduceCtorEq, Bool.not_true, Bool.not_false, Bool.true_xor, Bool.false_xor, Option.some.injEq, exists_eq_left', put_same, onB_bl, dSeq, dNext, dBreak, dDrop, dRet, dRetN, dIfS, dName, dgNil, dgCons, dgTup, dAsg, dPar, dPar3, dSetI, dgSub, dRaise, dVar, dC, dOp, dTest, dAnd, dOr, dNot, dAndV, dOrV, dNotV, dIf, dNil, dCons, dTup, dLst, dCall, dCB, dMt, dMt0, dInC, dIxC, dChain, dNeg, dNoPart, dPart, dSl, exE, dIsA, dCat, catchD, subE, Ex.ix, endsD, dLc, dISeq, dIRng1, dIRng2, dIEnum, dFor, dDcT, dDcK, dCallV, mStarts_str, mIndex_str, mUpper_str, dSortSet, dListZip, dListRng, dDnew, dLc2, List.getElem?_cons_zero, List.getElem?_cons_succ, List.set_cons_zero, List.set_cons_succ, onL_lst, isA_non, isA_int_int, isA_bool_int, isA_str_int, isA_tup_int, isA_lst_int, isA_int_str, isA_bool_str, isA_str_str, isA_tup_str, isA_lst_str, isA_int_tup, isA_bool_tup, isA_str_tup, isA_tup_tup, isA_lst_tup, isA_int_bl, isA_bool_bl, isA_str_bl, isA_tup_bl, isA_lst_bl, dAdd_int, dAdd_str, dAdd_tup, dAdd_ref, dSub_int, dLt_int, dLe_int, dGt_int, dGe_int, dMul_int, dMul_str, dMul_ref, dMod_int, dFdiv_int, dPow_int, dIsN_, dNotN_, isNon_int, isNon_non, dEq_str, dEq_int, dNe_str, dNe_int, dIn_sign, dIx_str, dIx_tup, dIx_scr, dIx_ref, dCut_str, dCut_tup, dCut_scr, dCut_ref, bLen_str, bLen_tup, bLen_ref, bInt_int, bInt_bl, bTup_tup, bTup_ref, bList_str, bList_tup, bList_ref, tyD_str, mAppend_ref, mExtend_ref, tyL, dSetL_ref, mJoin_ref, bMin_ref, bMax_ref, atI_0, atI_1, atI_2]
  refine ⟨rfl, M, 0, w, rfl, ok, ok.r1, hw, hz, ?_⟩
  exact ⟨.tup (natsD M.E), atI_2, dIn_ends (fgt_here q)⟩
def sp_nexts : SpD := fun ds h Q _ => ∃ (M : Mch) (a : Nat), ds = [mchD M, .int a] ∧ M.ok ∧ a < M.R.length ∧ ∀ r, h r = none → Q (.ref r) (put h r (.lst ((M.L.zip (M.R.getD a [])).filterMap fun co => match co.2 with
    | some b => some (.tup [.str [co.1], .int b])
    | none => none)))
/-- nexts(machine, state); slots: machine 0, state 1, pairs 2, letter 3, after 4 -/
def N_nexts : List Str := ["machine", "state", "pairs", "letter", "after"]
def m_nexts : MS := dSeq (dAsg (dListZip (dCons (dOp dIx (dVar 0) (dC (.int 0))) (dCons (dOp dIx (dOp dIx (dVar 0) (dC (.int 1))) (dVar 1)) (dNil)))) (dName 2)) (dRet (dLc (dISeq (dVar 2)) (.tup [.nm 3, .nm 4]) (dTest (dOp dNotN (dVar 4) (dC .non))) (dTup (dCons (dVar 3) (dCons (dVar 4) (dNil)))) [3, 4]))
theorem st_nexts (a0 a1 : D) : startD N_nexts [a0, a1] = [some a0, some a1, none, none, none] := rfl
theorem ok_nexts (ds : List D) (h : DHp) (Q : DK) (E : DX) (hn : ds.length = 2) (q : sp_nexts ds h Q E) : m_nexts (endsD Q E) (startD N_nexts ds) h := by
  have hs := sizeLine_eq
  obtain ⟨M, a, rfl, ok, ha, q⟩ := q
  obtain ⟨r, hr, e2, e3, _⟩ := row_at ok ha
  rw [e2] at q
  have h3 := ok.l3
  have h1 := ok.l1
  simp only [m_nexts, st_nexts, forall_const, true_implies, false_implies, implies_true, and_true, true_and, reduceCtorEq, Bool.not_true, Bool.not_false, Bool.true_xor, Bool.false_xor, Option.some.injEq, exists_eq_left', put_same, onB_bl, dSeq, dNext, dBreak, dDrop, dRet, dRetN, dIfS, dName, dgNil, dgCons, dgTup, dAsg, dPar, dPar3, dSetI, dgSub, dRaise, dVar, dC, dOp, dTest, dAnd, dOr, dNot, dAndV, dOrV, dNotV, dIf, dNil, dCons, dTup, dLst, dCall, dCB, dMt, dMt0, dInC, dIxC, dChain, dNeg, dNoPart, dPart, dSl, exE, dIsA, dCat, catchD, subE, Ex.ix, endsD, dLc, dISeq, dIRng1, dIRng2, dIEnum, dFor, dDcT, dDcK, dCallV, mStarts_str, mIndex_str, mUpper_str, dSortSet, dListZip, dListRng, dDnew, dLc2, List.getElem?_cons_zero, List.getElem?_cons_succ, List.set_cons_zero, List.set_cons_succ, onL_lst, isA_non, isA_int_int, isA_bool_int, isA_str_int, isA_tup_int, isA_lst_int, isA_int_str, isA_bool_str, isA_str_str, isA_tup_str, isA_lst_str, isA_int_tup, isA_bool_tup, isA_str_tup, isA_tup_tup, isA_lst_tup, isA_int_bl, isA_bool_bl, isA_str_bl, isA_tup_bl, isA_lst_bl, dAdd_int, dAdd_str, dAdd_tup, dAdd_ref, dSub_int, dLt_int, dLe_int, dGt_int, dGe_int, dMul_int, dMul_str, dMul_ref, dMod_int, dFdiv_int, dPow_int, dIsN_, dNotN_, isNon_int, isNon_non, dEq_str, dEq_int, dNe_str, dNe_int, dIn_sign, dIx_str, dIx_tup, dIx_scr, dIx_ref, dCut_str, dCut_tup, dCut_scr, dCut_ref, bLen_str, bLen_tup, bLen_ref, bInt_int, bInt_bl, bTup_tup, bTup_ref, bList_str, bList_tup, bList_ref, tyD_str, mAppend_ref, mExtend_ref, tyL, dSetL_ref, mJoin_ref, bMin_ref, bMax_ref, atI_0, atI_1, atI_2]
  refine ⟨.str M.L, atI_0, .tup (M.R.map rowD), atI_1, .tup (r.map optD), atI_lt (by rw [List.getElem?_map, hr]; rfl), by rw [List.length_map]; omega, by omega, by omega, ?_, fun p np => ?_⟩
  · rw [List.all_eq_true]
    intro c hc
    have : ∀ c ∈ SMALL, decide (c < 128) = true := by decide
    exact this c (ok.small c hc)
  · have el : (pairsD M.L (r.map optD)) = (M.L.zip r).map fun co => .tup [.str [co.1], optD co.2] := by
      rw [pairsD_map _ _ (by rw [List.length_map]; omega), List.zip_map_right, List.map_map]
      rfl
    rw [el]
    refine lcB_filter (fun d => match d with | .tup [_, .non] => false | _ => true) id put_same (by rw [List.length_map, List.length_zip]; omega) (fun d hd => ?_) fun u nu => ?_
    · obtain ⟨⟨c, o⟩, hco, rfl⟩ := List.mem_map.mp hd
      refine ⟨_, rfl, fun K k => ?_, fun _ K k => ?_⟩
      · cases o <;> exact ⟨rfl, k⟩
      · exact ⟨by show (2 : Nat) ≤ sizeLine; omega, k⟩
    · have ef : ((((M.L.zip r).map fun co => D.tup [.str [co.1], optD co.2]).filter fun d => (match d with | .tup [_, .non] => false | _ => true)).map id) = (M.L.zip r).filterMap fun co => match co.2 with
        | some b => some (.tup [.str [co.1], .int b])
        | none => none := by
        rw [List.map_id]
        induction M.L.zip r with
        | nil => rfl
        | cons co l ih =>
          obtain ⟨c, o⟩ := co
          rw [List.map_cons]
          cases o with
          | none => exact ih
          | some b => exact congrArg (List.cons _) ih
      rw [ef]
      exact fgt_new (less_new Less.refl np) nu q
def sp_has_word : SpD := fun ds h Q E => ∃ (M : Mch) (t : D), ds = [mchD M, t] ∧ M.ok ∧ Plain t h ∧ (∀ x, t = .str x → x.length ≤ 10000) ∧ (isText t M.L = false → E .word h) ∧ ∀ x, t = .str x → isText t M.L = true → Q (.bl (M.has x)) h
/-- has_word(machine, word); slots: machine 0, word 1 -/
def N_has_word : List Str := ["machine", "word"]
def m_has_word : MS := dSeq (dDrop (dCall 1 sp_need_machine (dCons (dVar 0) (dNil)))) (dSeq (dDrop (dCall 2 sp_need_text (dCons (dVar 1) (dCons (dOp dIx (dVar 0) (dC (.int 0))) (dNil))))) (dRet (dCall 2 sp_raw_has (dCons (dVar 0) (dCons (dVar 1) (dNil))))))
theorem st_has_word (a0 a1 : D) : startD N_has_word [a0, a1] = [some a0, some a1] := rfl
theorem isText_str2 {t : D} {L : Tx} (h : isText t L = true) : ∃ x, t = .str x ∧ x.length ≤ 200 ∧ ∀ c ∈ x, c ∈ L := by
  cases t with
  | str x =>
    simp only [isText, Bool.and_eq_true, decide_eq_true_eq] at h
    refine ⟨x, rfl, h.1, fun c hc => ?_⟩
    have := h.2
    unfold madeOf at this
    rw [List.all_eq_true] at this
    simpa using this c hc
  | _ => cases h
theorem ok_has_word (ds : List D) (h : DHp) (Q : DK) (E : DX) (hn : ds.length = 2) (q : sp_has_word ds h Q E) : m_has_word (endsD Q E) (startD N_has_word ds) h := by
  obtain ⟨M, t, rfl, ok, pt, hz, q1, q⟩ := q
  simp only [m_has_word, st_has_word, forall_const, true_implies, false_implies, implies_true, and_true, true_and, reduceCtorEq, Bool.not_true, Bool.not_false, Bool.true_xor, Bool.false_xor, Option.some.injEq, exists_eq_left', put_same, onB_bl, dSeq, dNext, dBreak, dDrop, dRet, dRetN, dIfS, dName, dgNil, dgCons, dgTup, dAsg, dPar, dPar3, dSetI, dgSub, dRaise, dVar, dC, dOp, dTest, dAnd, dOr, dNot, dAndV, dOrV, dNotV, dIf, dNil, dCons, dTup, dLst, dCall, dCB, dMt, dMt0, dInC, dIxC, dChain, dNeg, dNoPart, dPart, dSl, exE, dIsA, dCat, catchD, subE, Ex.ix, endsD, dLc, dISeq, dIRng1, dIRng2, dIEnum, dFor, dDcT, dDcK, dCallV, mStarts_str, mIndex_str, mUpper_str, dSortSet, dListZip, dListRng, dDnew, dLc2, List.getElem?_cons_zero, List.getElem?_cons_succ, List.set_cons_zero, List.set_cons_succ, onL_lst, isA_non, isA_int_int, isA_bool_int, isA_str_int, isA_tup_int, isA_lst_int, isA_int_str, isA_bool_str, isA_str_str, isA_tup_str, isA_lst_str, isA_int_tup, isA_bool_tup, isA_str_tup, isA_tup_tup, isA_lst_tup, isA_int_bl, isA_bool_bl, isA_str_bl, isA_tup_bl, isA_lst_bl, dAdd_int, dAdd_str, dAdd_tup, dAdd_ref, dSub_int, dLt_int, dLe_int, dGt_int, dGe_int, dMul_int, dMul_str, dMul_ref, dMod_int, dFdiv_int, dPow_int, dIsN_, dNotN_, isNon_int, isNon_non, dEq_str, dEq_int, dNe_str, dNe_int, dIn_sign, dIx_str, dIx_tup, dIx_scr, dIx_ref, dCut_str, dCut_tup, dCut_scr, dCut_ref, bLen_str, bLen_tup, bLen_ref, bInt_int, bInt_bl, bTup_tup, bTup_ref, bList_str, bList_tup, bList_ref, tyD_str, mAppend_ref, mExtend_ref, tyL, dSetL_ref, mJoin_ref, bMin_ref, bMax_ref, atI_0, atI_1, atI_2]
  refine ⟨rfl, M, rfl, ok, .str M.L, atI_0, rfl, pt, hz, fun ht => ?_, fun ht => ⟨h, Less.refl, q1 ht⟩⟩
  obtain ⟨x, rfl, hx, hc⟩ := isText_str2 ht
  exact ⟨rfl, M, x, rfl, ok, hc, by omega, fgt_here (q x rfl ht)⟩
def sp_need_many : SpD := fun ds h Q E => match ds with
  | [t] => Plain t h ∧ (within t 0 40 = true → Q .non h) ∧ (within t 0 40 = false → E .count h)
  | _ => False
/-- need_many(many); slots: many 0 -/
def N_need_many : List Str := ["many"]
def m_need_many : MS := dIfS (dNot (dTest (dCall 3 sp_is_within (dCons (dVar 0) (dCons (dC (.int 0)) (dCons (dC (.int 40)) (dNil))))))) (dRaise .count) (dNext)
theorem st_need_many (a0 : D) : startD N_need_many [a0] = [some a0] := rfl
theorem ok_need_many (ds : List D) (h : DHp) (Q : DK) (E : DX) (hn : ds.length = 1) (q : sp_need_many ds h Q E) : m_need_many (endsD Q E) (startD N_need_many ds) h := by
  match ds, q with
  | [t], ⟨pl, q1, q2⟩ =>
    simp only [m_need_many, st_need_many, forall_const, true_implies, false_implies, implies_true, and_true, true_and, reduceCtorEq, Bool.not_true, Bool.not_false, Bool.true_xor, Bool.false_xor, Option.some.injEq, exists_eq_left', put_same, onB_bl, dSeq, dNext, dBreak, dDrop, dRet, dRetN, dIfS, dName, dgNil, dgCons, dgTup, dAsg, dPar, dPar3, dSetI, dgSub, dRaise, dVar, dC, dOp, dTest, dAnd, dOr, dNot, dAndV, dOrV, dNotV, dIf, dNil, dCons, dTup, dLst, dCall, dCB, dMt, dMt0, dInC, dIxC, dChain, dNeg, dNoPart, dPart, dSl, exE, dIsA, dCat, catchD, subE, Ex.ix, endsD, dLc, dISeq, dIRng1, dIRng2, dIEnum, dFor, dDcT, dDcK, dCallV, mStarts_str, mIndex_str, mUpper_str, dSortSet, dListZip, dListRng, dDnew, dLc2, List.getElem?_cons_zero, List.getElem?_cons_succ, List.set_cons_zero, List.set_cons_succ, onL_lst, isA_non, isA_int_int, isA_bool_int, isA_str_int, isA_tup_int, isA_lst_int, isA_int_str, isA_bool_str, isA_str_str, isA_tup_str, isA_lst_str, isA_int_tup, isA_bool_tup, isA_str_tup, isA_tup_tup, isA_lst_tup, isA_int_bl, isA_bool_bl, isA_str_bl, isA_tup_bl, isA_lst_bl, dAdd_int, dAdd_str, dAdd_tup, dAdd_ref, dSub_int, dLt_int, dLe_int, dGt_int, dGe_int, dMul_int, dMul_str, dMul_ref, dMod_int, dFdiv_int, dPow_int, dIsN_, dNotN_, isNon_int, isNon_non, dEq_str, dEq_int, dNe_str, dNe_int, dIn_sign, dIx_str, dIx_tup, dIx_scr, dIx_ref, dCut_str, dCut_tup, dCut_scr, dCut_ref, bLen_str, bLen_tup, bLen_ref, bInt_int, bInt_bl, bTup_tup, bTup_ref, bList_str, bList_tup, bList_ref, tyD_str, mAppend_ref, mExtend_ref, tyL, dSetL_ref, mJoin_ref, bMin_ref, bMax_ref, atI_0, atI_1, atI_2]
    exact ⟨rfl, pl, fun h1 => ⟨h, Less.refl, q2 (by simpa using h1)⟩, fun h1 => fgt_here (q1 (by simpa using h1))⟩
end Tw

namespace Tw
open PySem PySem.Spec PyProof.Rows L2
/-- a comprehension whose parts lay new objects -/
theorem lcB_filterL {p : Pat} {tt : MT} {me : ME} {vs : List Nat} {δ : DSt} {Q : DK} {ds : List D} {ok : DHp → Prop} {h : DHp} (g : D → Bool) (f : D → D) (hok : ∀ h', Less h h' → ok h') (hz : ds.length ≤ sizeLine)
    (he : ∀ d ∈ ds, ∃ δ2, patB p d (dwipe δ vs) = some δ2 ∧ (∀ h', Less h h' → ∀ (K : Bool → DHp → Prop), (∀ h'', Less h h'' → K (g d) h'') → tt δ2 h' K nox) ∧ (g d = true → ∀ h', Less h h' → ∀ K : DK, (∀ h'', Less h h'' → K (f d) h'') → me δ2 h' K nox))
    (q : ∀ h' r, Less h h' → h' r = none → Q (.ref r) (put h' r (.lst ((ds.filter g).map f)))) : LcB p tt me vs δ Q ds ok h := by
  refine ⟨fun i acc h' => Less h h' ∧ i ≤ ds.length ∧ acc = ((ds.take i).filter g).map f, ⟨Less.refl, Nat.zero_le _, rfl⟩, ?_⟩
  rintro i acc h' ⟨l, hi, rfl⟩
  refine ⟨hok h' l, fun e r n => ?_, fun d hd => ?_⟩
  · subst e
    rw [List.take_length]
    exact q h' r l n
  · obtain ⟨hlt, hd'⟩ := List.getElem?_eq_some_iff.mp hd
    obtain ⟨δ2, e1, e2, e3⟩ := he d (List.mem_of_getElem? hd)
    refine ⟨δ2, e1, e2 h' l _ fun h'' l2 => ⟨fun z => e3 z h'' l2 _ fun h3 l3 => ⟨?_, l3, hlt, ?_⟩, fun z => ⟨l2, hlt, ?_⟩⟩⟩
    · rw [List.length_map]
      have := List.length_filter_le g (ds.take i)
      rw [List.length_take] at this
      omega
    · rw [← hd', List.take_succ_eq_append_getElem hlt, List.filter_append, List.map_append]
      rw [← hd'] at z
      simp [z]
    · rw [List.take_succ_eq_append_getElem hlt, List.filter_append, List.map_append]
      rw [← hd'] at z
      simp [z]
/-- the whole numbers among a dict's keys -/
def Keys (kvs : List (KeyD × D)) (f : Nat → Bool) : Prop := ∀ j : Int, (valC kvs (.inl j)).isSome = (decide (0 ≤ j) && f j.toNat)
theorem Keys.nat {kvs : List (KeyD × D)} {f : Nat → Bool} (k : Keys kvs f) (q : Nat) : (valC kvs (.inl (q : Int))).isSome = f q := by
  rw [k]
  simp
theorem dIn_keys {kvs : List (KeyD × D)} {f : Nat → Bool} {h : DHp} {p : Addr} {q : Nat} {neg : Bool} {K : DK} (e : h p = some (.dct kvs)) (k : Keys kvs f) (r : K (.bl (xor neg (f q))) h) : dIn neg (.int (q : Int)) (.ref p) h K := by
  simp only [dIn, e, inC, k.nat]
  exact r
def Mch.opt (f : Nat → Bool) : Option Nat → Bool
  | some a => f a
  | none => false
theorem dIn_keysO {kvs : List (KeyD × D)} {f : Nat → Bool} {h : DHp} {p : Addr} {o : Option Nat} {K : DK} (e : h p = some (.dct kvs)) (k : Keys kvs f) (r : K (.bl (Mch.opt f o)) h) : dIn false (optD o) (.ref p) h K := by
  cases o with
  | some a => exact dIn_keys e k (by rw [Bool.false_xor]; exact r)
  | none => simp only [dIn, optD, e, inC]; exact r
theorem putCs_form (v : D) : ∀ (ks : List KeyD) (l : List KeyD), ∃ l' : List KeyD, putCs (l.map fun k => (k, v)) (ks.map fun k => (k, v)) = l'.map (fun k => (k, v)) ∧ (∀ j, j ∈ l' ↔ j ∈ l ∨ j ∈ ks) ∧ l'.length ≤ l.length + ks.length
  | [], l => ⟨l, rfl, fun j => by simp, by simp⟩
  | k :: ks, l => by
    have e : ∃ l1 : List KeyD, putC (l.map fun k => (k, v)) k v = l1.map (fun k => (k, v)) ∧ (∀ j, j ∈ l1 ↔ j ∈ l ∨ j = k) ∧ l1.length ≤ l.length + 1 := by
      unfold putC
      split
      · rename_i hk
        rw [List.any_eq_true] at hk
        obtain ⟨p, hp, ep⟩ := hk
        obtain ⟨k', hk', rfl⟩ := List.mem_map.mp hp
        have ek : k' = k := by simpa using ep
        subst ek
        refine ⟨l, ?_, fun j => ⟨fun h => .inl h, fun h => ?_⟩, by omega⟩
        · rw [List.map_map]
          refine List.map_congr_left fun x _ => ?_
          show (if x = k' then (x, v) else (x, v)) = (x, v)
          split <;> rfl
        · rcases h with h | h
          · exact h
          · exact h ▸ hk'
      · exact ⟨l ++ [k], by simp, fun j => by simp, by simp⟩
    obtain ⟨l1, e1, e2, e3⟩ := e
    obtain ⟨l2, f1, f2, f3⟩ := putCs_form v ks l1
    refine ⟨l2, ?_, fun j => ?_, by rw [List.length_cons]; omega⟩
    · show putCs (putC (l.map fun k => (k, v)) k v) (ks.map fun k => (k, v)) = _
      rw [e1, f1]
    · rw [f2, e2, List.mem_cons]
      constructor
      · rintro ((h | h) | h)
        · exact .inl h
        · exact .inr (.inl h)
        · exact .inr (.inr h)
      · rintro (h | h | h)
        · exact .inl (.inl h)
        · exact .inl (.inr h)
        · exact .inr h
/-- whole numbers put as keys -/
def kN (l : List Nat) : List KeyD := l.map fun (k : Nat) => .inl (k : Int)
theorem kN_mem {l : List Nat} {j : Int} : (Sum.inl j : KeyD) ∈ kN l ↔ 0 ≤ j ∧ j.toNat ∈ l := by
  unfold kN
  rw [List.mem_map]
  constructor
  · rintro ⟨k, hk, e⟩
    have e : (k : Int) = j := by simpa using e
    subst e
    exact ⟨by omega, by simpa using hk⟩
  · rintro ⟨h0, hk⟩
    exact ⟨j.toNat, hk, by congr 1; omega⟩
theorem keys_put {kvs : List (KeyD × D)} {f : Nat → Bool} {l' : List KeyD} {l : List Nat} {v : D} (k : Keys kvs f) (hl : ∀ j, j ∈ l' ↔ j ∈ kN l) : Keys (putCs kvs (l'.map fun k => (k, v))) (fun q => f q || decide (q ∈ l)) := by
  intro j
  obtain ⟨h1, h2⟩ := valCs v (.inl j) l' kvs
  by_cases z : (Sum.inl j : KeyD) ∈ l'
  · rw [h1 z]
    have := kN_mem.mp ((hl _).mp z)
    simp [this.1, this.2]
  · rw [h2 z, k]
    have : ¬ (0 ≤ j ∧ j.toNat ∈ l) := fun y => z ((hl _).mpr (kN_mem.mpr y))
    by_cases h0 : 0 ≤ j
    · have : j.toNat ∉ l := fun y => this ⟨h0, y⟩
      simp [h0, this]
    · simp [h0]
def sp_living : SpD := fun ds h Q _ => ∃ M : Mch, ds = [mchD M] ∧ M.ok ∧ ∀ r kvs, h r = none → Keys kvs M.live → Q (.ref r) (put h r (.dct kvs))
/-- living(machine); slots: machine 0, found 1, is_more 2, more 3, end 4, k 5, row 6, after 7 -/
def N_living : List Str := ["machine", "found", "is_more", "more", "end", "k", "row", "after"]
def m_living : MS := dSeq (dAsg (dTup (dCons (dDcK (dISeq (dOp dIx (dVar 0) (dC (.int 2)))) (.nm 4) (dYes) (dVar 4) (dC (.bl true)) [4]) (dCons (dC (.bl true)) (dNil)))) (dgTup 2 (dgCons (dName 1) (dgCons (dName 2) (dgNil))))) (dSeq (dWhile (dTest (dVar 2)) (dSeq (dAsg (dLc (dIEnum (dCons (dOp dIx (dVar 0) (dC (.int 1))) (dNil))) (.tup [.nm 5, .nm 6]) (dAnd (dTest (dOp (dIn true) (dVar 5) (dVar 1))) (dTest (dCB (bAll fun bs => bs.any id) (dCons (dLc (dISeq (dVar 6)) (.nm 7) (dYes) (dOp (dIn false) (dVar 7) (dVar 1)) [7]) (dNil))))) (dVar 5) [5, 6]) (dName 3)) (dSeq (dDrop (dMt "dict" mUpdate (dVar 1) (dCons (dDcK (dISeq (dVar 3)) (.nm 5) (dYes) (dVar 5) (dC (.bl true)) [5]) (dNil)))) (dAsg (dOp dNe (dVar 3) (dLst (dNil))) (dName 2))))) (dRet (dVar 1)))
theorem st_living (a0 : D) : startD N_living [a0] = [some a0, none, none, none, none, none, none, none] := rfl
theorem dkB_nats {Q : DK} {vs : List Nat} {δ : DSt} {i : Nat} {l : List Nat} {ok : DHp → Prop} {h : DHp} (hok : ok h) (hz : l.length ≤ sizeLine)
    (hi : ∀ d, ((dwipe δ vs).set i (some d))[i]? = some (some d)) (q : ∀ (r : Addr) (l' : List KeyD), h r = none → (∀ j, j ∈ l' ↔ j ∈ kN l) → l'.length ≤ l.length → Q (.ref r) (put h r (.dct (l'.map fun k => (k, .bl true))))) : DkB (.nm i) dYes (dVar i) (dC (.bl true)) vs δ Q (natsD l) ok h := by
  refine dkB_map (fun d => match d with | .int i => .inl i | _ => .inl 0) (fun _ => .bl true) hok (by simpa [natsD] using hz) (fun d hd => ?_) fun r nr => ?_
  · obtain ⟨k, hk, rfl⟩ := List.mem_map.mp hd
    refine ⟨_, patB_nm, .int k, rfl, fun K k => ?_, fun K k => k⟩
    unfold dVar
    rw [hi]
    exact k
  · obtain ⟨l', e1, e2, e3⟩ := putCs_form (.bl true) (kN l) []
    have e4 : (natsD l).map (fun d => ((match d with | .int i => Sum.inl i | _ => Sum.inl 0 : KeyD), D.bl true)) = (kN l).map fun k => (k, .bl true) := by
      unfold natsD kN
      rw [List.map_map, List.map_map]
      rfl
    rw [e4]
    rw [List.map_nil] at e1
    rw [e1]
    exact q r l' nr (fun j => by rw [e2]; simp) (by simpa [kN] using e3)
theorem keys_map {l' : List KeyD} {l : List Nat} {v : D} (hl : ∀ j, j ∈ l' ↔ j ∈ kN l) : Keys (l'.map fun k => (k, v)) (fun q => decide (q ∈ l)) := by
  intro j
  rw [← valC_any, Bool.eq_iff_iff, List.any_eq_true, Bool.and_eq_true, decide_eq_true_eq, decide_eq_true_eq]
  constructor
  · rintro ⟨x, hx, e⟩
    obtain ⟨k, hk, rfl⟩ := List.mem_map.mp hx
    have e : k = .inl j := by simpa using e
    subst e
    exact kN_mem.mp ((hl _).mp hk)
  · intro h
    exact ⟨(.inl j, v), List.mem_map.mpr ⟨_, (hl _).mpr (kN_mem.mpr h), rfl⟩, by simp⟩
theorem enum_mem {α : Type} {f : α → D} {l : List α} {d : D} (h : d ∈ enumD (l.map f)) : ∃ (k : Nat) (x : α), l[k]? = some x ∧ d = .tup [.int (k : Nat), f x] := by
  unfold enumD at h
  obtain ⟨i, hi⟩ := List.mem_iff_getElem?.mp h
  rw [List.getElem?_mapIdx, List.getElem?_map, Option.map_map] at hi
  obtain ⟨x, hx, e⟩ := Option.map_eq_some_iff.mp hi
  exact ⟨i, x, hx, e.symm⟩
theorem enum_filter {α : Type} {f : α → D} {g : D → Bool} {u : D → D} {G : Nat → Bool} (hg : ∀ (k : Nat) d, g (.tup [.int (k : Nat), d]) = G k) (hu : ∀ k d, u (.tup [k, d]) = k) (l : List α) :
    ((enumD (l.map f)).filter g).map u = natsD ((List.range l.length).filter G) := by
  have gen : ∀ (l : List α) (o : Nat), ((((l.map f).mapIdx fun i d => D.tup [.int ((i + o : Nat) : Int), d]).filter g).map u) = natsD ((List.range' o l.length).filter G) := by
    intro l
    induction l with
    | nil => intro o; rfl
    | cons a l ih =>
      intro o
      rw [List.map_cons, List.mapIdx_cons, List.length_cons, List.range'_succ]
      have e2 : ((l.map f).mapIdx fun i d => D.tup [.int (((i + 1) + o : Nat) : Int), d]) = (l.map f).mapIdx fun i d => D.tup [.int ((i + (o + 1) : Nat) : Int), d] := by
        congr 1
        funext i d
        rw [show i + 1 + o = i + (o + 1) by omega]
      rw [e2]
      have hg0 : g (.tup [.int ((0 + o : Nat) : Int), f a]) = G o := by rw [hg, Nat.zero_add]
      by_cases z : G o = true
      · rw [List.filter_cons_of_pos (by rw [hg0]; exact z), List.map_cons, hu, ih (o + 1), List.filter_cons_of_pos z]
        simp [natsD]
      · rw [List.filter_cons_of_neg (by rw [hg0]; exact z), ih (o + 1), List.filter_cons_of_neg z]
  have := gen l 0
  rw [List.range_eq_range']
  simpa [enumD] using this
theorem al_step {M : Mch} {t q : Nat} : M.al (t + 1) q = (M.al t q || M.any (M.al t) q) := rfl
theorem any_row {M : Mch} {f : Nat → Bool} {k : Nat} {r : List (Option Nat)} (h : M.R[k]? = some r) : M.any f k = (r.map (Mch.opt f)).any id := by
  unfold Mch.any
  rw [List.getD_eq_getElem?_getD, h, List.any_map]
  rfl
def Mch.more (M : Mch) (t : Nat) : List Nat := (List.range M.R.length).filter fun k => !M.al t k && M.any (M.al t) k
theorem more_al {M : Mch} (ok : M.ok) (t q : Nat) : (M.al t q || decide (q ∈ M.more t)) = M.al (t + 1) q := by
  rw [al_step]
  cases e : M.al t q with
  | true => rfl
  | false =>
    rw [Bool.false_or, Bool.false_or, Bool.eq_iff_iff, decide_eq_true_eq]
    unfold Mch.more
    rw [List.mem_filter, List.mem_range, e]
    constructor
    · exact fun h => by simpa using h.2
    · intro h
      refine ⟨?_, by simpa using h⟩
      have : M.al (t + 1) q = true := by rw [al_step, h, Bool.or_true]
      exact al_lt ok this
theorem more_nil {M : Mch} (ok : M.ok) {t : Nat} (h : M.more t = []) : M.still t := by
  intro q
  rw [← more_al ok, h]
  simp
theorem more_some {M : Mch} (ok : M.ok) {t : Nat} (h : M.more t ≠ []) : ¬ M.still t := by
  obtain ⟨q, hq⟩ := List.exists_mem_of_ne_nil _ h
  intro z
  have e1 := z q
  rw [← more_al ok, decide_eq_true hq, Bool.or_true] at e1
  unfold Mch.more at hq
  rw [List.mem_filter] at hq
  rw [← e1] at hq
  simp at hq
theorem dNe_nats {h : DHp} {a b : Addr} {l : List Nat} {K : DK} (ea : h a = some (.lst (natsD l))) (eb : h b = some (.lst [])) (k : K (.bl (!decide (l = []))) h) : dNe (.ref a) (.ref b) h K := by
  refine dNe_ints (ws := l.map fun (e : Nat) => (e : Int)) (vs := []) (by rw [ea, natsD_int]) eb ?_
  have e : decide ((l.map fun (e : Nat) => (e : Int)) = []) = decide (l = []) := by simp
  rw [e]
  exact k
theorem ok_living (ds : List D) (h : DHp) (Q : DK) (E : DX) (hn : ds.length = 1) (q : sp_living ds h Q E) : m_living (endsD Q E) (startD N_living ds) h := by
  have hs := sizeLine_eq
  obtain ⟨M, rfl, ok, q⟩ := q
  have hE := ends_len ok
  have h6 := ok.r6
  simp only [m_living, st_living, forall_const, true_implies, false_implies, implies_true, and_true, true_and, reduceCtorEq, Bool.not_true, Bool.not_false, Bool.true_xor, Bool.false_xor, Option.some.injEq, exists_eq_left', put_same, onB_bl, dSeq, dNext, dBreak, dDrop, dRet, dRetN, dIfS, dName, dgNil, dgCons, dgTup, dAsg, dPar, dPar3, dSetI, dgSub, dRaise, dVar, dC, dOp, dTest, dAnd, dOr, dNot, dAndV, dOrV, dNotV, dIf, dNil, dCons, dTup, dLst, dCall, dCB, dMt, dMt0, dInC, dIxC, dChain, dNeg, dNoPart, dPart, dSl, exE, dIsA, dCat, catchD, subE, Ex.ix, endsD, dLc, dISeq, dIRng1, dIRng2, dIEnum, dFor, dDcT, dDcK, dCallV, mStarts_str, mIndex_str, mUpper_str, dSortSet, dListZip, dListRng, dDnew, dLc2, List.getElem?_cons_zero, List.getElem?_cons_succ, List.set_cons_zero, List.set_cons_succ, onL_lst, isA_non, isA_int_int, isA_bool_int, isA_str_int, isA_tup_int, isA_lst_int, isA_int_str, isA_bool_str, isA_str_str, isA_tup_str, isA_lst_str, isA_int_tup, isA_bool_tup, isA_str_tup, isA_tup_tup, isA_lst_tup, isA_int_bl, isA_bool_bl, isA_str_bl, isA_tup_bl, isA_lst_bl, dAdd_int, dAdd_str, dAdd_tup, dAdd_ref, dSub_int, dLt_int, dLe_int, dGt_int, dGe_int, dMul_int, dMul_str, dMul_ref, dMod_int, dFdiv_int, dPow_int, dIsN_, dNotN_, isNon_int, isNon_non, dEq_str, dEq_int, dNe_str, dNe_int, dIn_sign, dIx_str, dIx_tup, dIx_scr, dIx_ref, dCut_str, dCut_tup, dCut_scr, dCut_ref, bLen_str, bLen_tup, bLen_ref, bInt_int, bInt_bl, bTup_tup, bTup_ref, bList_str, bList_tup, bList_ref, tyD_str, mAppend_ref, mExtend_ref, tyL, dSetL_ref, mJoin_ref, bMin_ref, bMax_ref, atI_0, atI_1, atI_2, dWhile]
  refine ⟨.tup (natsD M.E), atI_2, dkB_nats True.intro (by omega) (fun d => rfl) fun p l0 np hl0 hl1 => ?_⟩
  refine ⟨by show (2 : Nat) ≤ sizeLine; omega, rfl, fun m δ g => ∃ (t : Nat) (b : Bool) (kvs : List (KeyD × D)) (s3 : Option D), δ = [some (mchD M), some (.ref p), some (.bl b), s3, none, none, none, none] ∧ Less h g ∧ g p = some (.dct kvs) ∧ Keys kvs (M.al t) ∧ kvs.length ≤ 10 + 10 * t ∧ t ≤ 6 ∧ (b = true → t ≤ M.cnt t) ∧ (b = false → M.still t) ∧ m = (7 - t) + (if b = true then 1 else 0),
    ⟨_, 0, true, _, _, rfl, less_new Less.refl np, put_same, keys_map hl0, by rw [List.length_map]; omega, by omega, fun _ => Nat.zero_le _, (fun z => by cases z), rfl⟩, ?_⟩
  rintro m δ g ⟨t, b, kvs, s3, rfl, l, hp, hk, hz, ht, hb1, hb2, rfl⟩
  simp only [forall_const, true_implies, false_implies, implies_true, and_true, true_and, reduceCtorEq, Bool.not_true, Bool.not_false, Bool.true_xor, Bool.false_xor, Option.some.injEq, exists_eq_left', put_same, onB_bl, dSeq, dNext, dBreak, dDrop, dRet, dRetN, dIfS, dName, dgNil, dgCons, dgTup, dAsg, dPar, dPar3, dSetI, dgSub, dRaise, dVar, dC, dOp, dTest, dAnd, dOr, dNot, dAndV, dOrV, dNotV, dIf, dNil, dCons, dTup, dLst, dCall, dCB, dMt, dMt0, dInC, dIxC, dChain, dNeg, dNoPart, dPart, dSl, exE, dIsA, dCat, catchD, subE, Ex.ix, endsD, dLc, dISeq, dIRng1, dIRng2, dIEnum, dFor, dDcT, dDcK, dCallV, mStarts_str, mIndex_str, mUpper_str, dSortSet, dListZip, dListRng, dDnew, dLc2, List.getElem?_cons_zero, List.getElem?_cons_succ, List.set_cons_zero, List.set_cons_succ, onL_lst, isA_non, isA_int_int, isA_bool_int, isA_str_int, isA_tup_int, isA_lst_int, isA_int_str, isA_bool_str, isA_str_str, isA_tup_str, isA_lst_str, isA_int_tup, isA_bool_tup, isA_str_tup, isA_tup_tup, isA_lst_tup, isA_int_bl, isA_bool_bl, isA_str_bl, isA_tup_bl, isA_lst_bl, dAdd_int, dAdd_str, dAdd_tup, dAdd_ref, dSub_int, dLt_int, dLe_int, dGt_int, dGe_int, dMul_int, dMul_str, dMul_ref, dMod_int, dFdiv_int, dPow_int, dIsN_, dNotN_, isNon_int, isNon_non, dEq_str, dEq_int, dNe_str, dNe_int, dIn_sign, dIx_str, dIx_tup, dIx_scr, dIx_ref, dCut_str, dCut_tup, dCut_scr, dCut_ref, bLen_str, bLen_tup, bLen_ref, bInt_int, bInt_bl, bTup_tup, bTup_ref, bList_str, bList_tup, bList_ref, tyD_str, mAppend_ref, mExtend_ref, tyL, dSetL_ref, mJoin_ref, bMin_ref, bMax_ref, atI_0, atI_1, atI_2]
  refine ⟨fun eb => ?_, fun eb => ?_⟩
  · subst eb
    refine ⟨.tup (M.R.map rowD), atI_1, ?_⟩
    refine lcB_filterL (fun d => match d with | .tup [.int k, _] => !M.al t k.toNat && M.any (M.al t) k.toNat | _ => false) (fun d => match d with | .tup [k, _] => k | _ => .non) (fun _ _ => True.intro) (by simp [enumD]; omega) (fun d hd => ?_) fun g1 r l1 nr => ?_
    · obtain ⟨k, row, hr, rfl⟩ := enum_mem hd
      refine ⟨_, rfl, fun h' l' K hK => ?_, fun _ h' l' K hK => hK _ l'⟩
      have hp' := l' _ _ hp
      simp only [forall_const, true_implies, false_implies, implies_true, and_true, true_and, reduceCtorEq, Bool.not_true, Bool.not_false, Bool.true_xor, Bool.false_xor, Option.some.injEq, exists_eq_left', put_same, onB_bl, dSeq, dNext, dBreak, dDrop, dRet, dRetN, dIfS, dName, dgNil, dgCons, dgTup, dAsg, dPar, dPar3, dSetI, dgSub, dRaise, dVar, dC, dOp, dTest, dAnd, dOr, dNot, dAndV, dOrV, dNotV, dIf, dNil, dCons, dTup, dLst, dCall, dCB, dMt, dMt0, dInC, dIxC, dChain, dNeg, dNoPart, dPart, dSl, exE, dIsA, dCat, catchD, subE, Ex.ix, endsD, dLc, dISeq, dIRng1, dIRng2, dIEnum, dFor, dDcT, dDcK, dCallV, mStarts_str, mIndex_str, mUpper_str, dSortSet, dListZip, dListRng, dDnew, dLc2, List.getElem?_cons_zero, List.getElem?_cons_succ, List.set_cons_zero, List.set_cons_succ, onL_lst, isA_non, isA_int_int, isA_bool_int, isA_str_int, isA_tup_int, isA_lst_int, isA_int_str, isA_bool_str, isA_str_str, isA_tup_str, isA_lst_str, isA_int_tup, isA_bool_tup, isA_str_tup, isA_tup_tup, isA_lst_tup, isA_int_bl, isA_bool_bl, isA_str_bl, isA_tup_bl, isA_lst_bl, dAdd_int, dAdd_str, dAdd_tup, dAdd_ref, dSub_int, dLt_int, dLe_int, dGt_int, dGe_int, dMul_int, dMul_str, dMul_ref, dMod_int, dFdiv_int, dPow_int, dIsN_, dNotN_, isNon_int, isNon_non, dEq_str, dEq_int, dNe_str, dNe_int, dIn_sign, dIx_str, dIx_tup, dIx_scr, dIx_ref, dCut_str, dCut_tup, dCut_scr, dCut_ref, bLen_str, bLen_tup, bLen_ref, bInt_int, bInt_bl, bTup_tup, bTup_ref, bList_str, bList_tup, bList_ref, tyD_str, mAppend_ref, mExtend_ref, tyL, dSetL_ref, mJoin_ref, bMin_ref, bMax_ref, atI_0, atI_1, atI_2, dwipe]
      refine dIn_keys hp' hk ?_
      show (xor true (M.al t k) = true → _) ∧ (xor true (M.al t k) = false → _)
      refine ⟨fun z => ?_, fun z => ?_⟩
      · show LcB (.nm 7) dYes _ _ _ _ (row.map optD) (fun _ => True) h'
        refine lcB_map (fun d => match d with | .int a => .bl (M.al t a.toNat) | _ => .bl false) True.intro (by rw [List.length_map, (ok.row row (List.mem_of_getElem? hr)).1]; have := ok.l3; omega) (fun d hd => ?_) fun u nu => ?_
        · obtain ⟨o, ho, rfl⟩ := List.mem_map.mp hd
          refine ⟨_, rfl, fun K k => ?_⟩
          show dIn false (optD o) (.ref p) h' K
          refine dIn_keysO hp' hk ?_
          cases o <;> simpa [optD, Mch.opt] using k
        · refine ⟨row.map (Mch.opt (M.al t)), ?_, ?_⟩
          · simp only [listD, put_same, List.map_map]
            congr 1
            refine List.map_congr_left fun o _ => ?_
            cases o <;> simp [optD, Mch.opt]
          · have e : (!M.al t (Int.toNat (k : Nat)) && M.any (M.al t) (Int.toNat (k : Nat))) = (row.map (Mch.opt (M.al t))).any id := by
              rw [Int.toNat_natCast, any_row hr]
              have : M.al t k = false := by simpa using z
              rw [this]; rfl
            show K ((row.map (Mch.opt (M.al t))).any id) _
            rw [← e]
            exact hK _ (less_new l' nu)
      · have e : (!M.al t (Int.toNat (k : Nat)) && M.any (M.al t) (Int.toNat (k : Nat))) = false := by
          have : M.al t k = true := by simpa using z
          rw [Int.toNat_natCast, this]; rfl
        show K false h'
        rw [← e]
        exact hK _ l'
    · have em : ((enumD (M.R.map rowD)).filter fun d => (match d with | .tup [.int k, _] => !M.al t k.toNat && M.any (M.al t) k.toNat | _ => false)).map (fun d => (match d with | .tup [k, _] => k | _ => D.non)) = natsD (M.more t) :=
        enum_filter (G := fun k => !M.al t k && M.any (M.al t) k) (fun k d => by simp) (fun k d => rfl) M.R
      rw [em]
      have ml : (M.more t).length ≤ 6 := by
        unfold Mch.more
        refine Nat.le_trans (List.length_filter_le _ _) ?_
        simpa using h6
      have hp1 : put g1 r (.lst (natsD (M.more t))) p = some (.dct kvs) := put_old (l1 _ _ hp) nr
      have npr : p ≠ r := fun z => by subst z; rw [l1 _ _ hp] at nr; cases nr
      simp only [forall_const, true_implies, false_implies, implies_true, and_true, true_and, reduceCtorEq, Bool.not_true, Bool.not_false, Bool.true_xor, Bool.false_xor, Option.some.injEq, exists_eq_left', put_same, onB_bl, dSeq, dNext, dBreak, dDrop, dRet, dRetN, dIfS, dName, dgNil, dgCons, dgTup, dAsg, dPar, dPar3, dSetI, dgSub, dRaise, dVar, dC, dOp, dTest, dAnd, dOr, dNot, dAndV, dOrV, dNotV, dIf, dNil, dCons, dTup, dLst, dCall, dCB, dMt, dMt0, dInC, dIxC, dChain, dNeg, dNoPart, dPart, dSl, exE, dIsA, dCat, catchD, subE, Ex.ix, endsD, dLc, dISeq, dIRng1, dIRng2, dIEnum, dFor, dDcT, dDcK, dCallV, mStarts_str, mIndex_str, mUpper_str, dSortSet, dListZip, dListRng, dDnew, dLc2, List.getElem?_cons_zero, List.getElem?_cons_succ, List.set_cons_zero, List.set_cons_succ, onL_lst, isA_non, isA_int_int, isA_bool_int, isA_str_int, isA_tup_int, isA_lst_int, isA_int_str, isA_bool_str, isA_str_str, isA_tup_str, isA_lst_str, isA_int_tup, isA_bool_tup, isA_str_tup, isA_tup_tup, isA_lst_tup, isA_int_bl, isA_bool_bl, isA_str_bl, isA_tup_bl, isA_lst_bl, dAdd_int, dAdd_str, dAdd_tup, dAdd_ref, dSub_int, dLt_int, dLe_int, dGt_int, dGe_int, dMul_int, dMul_str, dMul_ref, dMod_int, dFdiv_int, dPow_int, dIsN_, dNotN_, isNon_int, isNon_non, dEq_str, dEq_int, dNe_str, dNe_int, dIn_sign, dIx_str, dIx_tup, dIx_scr, dIx_ref, dCut_str, dCut_tup, dCut_scr, dCut_ref, bLen_str, bLen_tup, bLen_ref, bInt_int, bInt_bl, bTup_tup, bTup_ref, bList_str, bList_tup, bList_ref, tyD_str, mAppend_ref, mExtend_ref, tyL, dSetL_ref, mJoin_ref, bMin_ref, bMax_ref, atI_0, atI_1, atI_2]
      refine ⟨by simp only [tyD, hp1], ?_⟩
      refine dkB_nats put_same (by omega) (fun d => rfl) fun r2 l' nr2 hl' hl2 => ?_
      have hp2 := put_old (o := .dct (l'.map fun k => (k, .bl true))) hp1 nr2
      have n12 : p ≠ r2 := fun z => by subst z; rw [hp1] at nr2; cases nr2
      have hr1 := put_old (o := .dct (l'.map fun k => (k, .bl true))) (put_same (h := g1) (a := r) (o := .lst (natsD (M.more t)))) nr2
      refine ⟨n12, kvs, _, hp2, put_same, by rw [List.length_map]; omega, ?_⟩
      refine ⟨by show (0 : Nat) ≤ sizeLine; omega, fun r3 nr3 => ?_⟩
      have nr3' := none_old nr3
      refine dNe_nats (l := M.more t) (put_old (by rw [put_ne (Ne.symm npr)]; exact hr1) nr3) put_same ?_
      have lfin : Less h (put (put (put (put g1 r (.lst (natsD (M.more t)))) r2 (.dct (l'.map fun k => (k, .bl true)))) p (.dct (putCs kvs (l'.map fun k => (k, .bl true))))) r3 (.lst [])) :=
        less_new (less_upd (less_new (less_new (fun a o e => l1 a o (l a o e)) nr) nr2) np) nr3
      have pfin := put_old (o := .lst []) (put_same (h := put (put g1 r (.lst (natsD (M.more t)))) r2 (.dct (l'.map fun k => (k, .bl true)))) (a := p) (o := .dct (putCs kvs (l'.map fun k => (k, .bl true))))) nr3
      have kfin := keys_put (v := .bl true) hk hl'
      have kfin2 : Keys (putCs kvs (l'.map fun k => (k, .bl true))) (M.al (t + 1)) := by
        intro j
        rw [kfin j]
        show (_ && (M.al t j.toNat || decide (j.toNat ∈ M.more t))) = _
        rw [more_al ok]
      by_cases em0 : M.more t = []
      · have st := more_nil ok em0
        have e0 : l' = [] := by
          have : l'.length ≤ 0 := by simpa [em0] using hl2
          exact List.eq_nil_of_length_eq_zero (by omega)
        refine ⟨(7 - t) + 0, by simp, t, !decide (M.more t = []), _, _, rfl, lfin, pfin, ?_, ?_, ht, fun z => by simp [em0] at z, fun _ => st, by simp [em0]⟩
        · intro j
          rw [kfin2 j, st]
        · rw [e0]
          exact hz
      · have st := more_some ok em0
        have g1' := cnt_grow ok st
        have g2 := hb1 rfl
        have g3 := cnt_le (M := M) (t := t + 1)
        refine ⟨(7 - (t + 1)) + 1, by simp; omega, t + 1, !decide (M.more t = []), _, _, rfl, lfin, pfin, kfin2, ?_, by omega, fun _ => by omega, fun z => by simp [em0] at z, by simp [em0]⟩
        have := putCs_len (l'.map fun k => (k, D.bl true)) kvs
        rw [List.length_map] at this
        omega
  · subst eb
    have st := hb2 rfl
    exact fgt_own l hp np fun r nr => q r kvs nr fun j => by rw [hk j, still_live ok st]
/-- a level as it stands -/
def lvD (l : List Nd) : List D := l.map fun p => .tup [.str p.1, .int (p.2 : Nat)]
def lvP (l : List Nd) : List PyData := l.map fun p => .tuple [.str (tx p.1), .int (p.2 : Nat)]
theorem pya_lv {h : DHp} : ∀ l : List Nd, PyA h (lvD l) (lvP l)
  | [] => .nil
  | p :: l => .cons (.tup (.cons (.str _) (.cons (.int _) .nil))) (pya_lv l)
theorem canL_lv : ∀ {l : List Nd}, (∀ p ∈ l, okTx p.1) → PyData.canLayAll0 (lvP l) = true
  | [], _ => rfl
  | p :: l, h => by
    have h1 := shaped_s (h p (by simp))
    simp only [SeqAt.shaped, Bool.and_eq_true] at h1
    have h2 := canL_lv (l := l) fun q hq => h q (by simp [hq])
    show (PyData.canLay0 (.tuple [.str (tx p.1), .int (p.2 : Nat)]) && PyData.canLayAll0 (lvP l)) = true
    rw [h2]
    simp [PyData.canLay0, PyData.canLayAll0] at h1 ⊢
    exact h1.1
theorem depth_lv : ∀ l : List Nd, PyData.depthAll (lvP l) ≤ 1
  | [] => Nat.zero_le _
  | p :: l => by
    exact Nat.max_le.mpr ⟨Nat.le_refl _, depth_lv l⟩
theorem shaped_lv {l : List Nd} (h : ∀ p ∈ l, okTx p.1) : SeqAt.shaped (.list (lvP l)) = true := by
  simp only [SeqAt.shaped, PyData.canLay0, PyData.depth, Bool.and_eq_true, decide_eq_true_eq]
  have e := depth_lv l
  exact ⟨canL_lv h, by first | omega | (simp; omega) | (refine Nat.le_trans (Nat.add_le_add_right e 1) ?_; decide)⟩
theorem dNe_lv {h : DHp} {a b : Addr} {l : List Nd} {K : DK} (ok : ∀ p ∈ l, okTx p.1) (ea : h a = some (.lst (lvD l))) (eb : h b = some (.lst [])) (k : K (.bl (!decide (l = []))) h) : dNe (.ref a) (.ref b) h K := by
  refine ⟨_, _, .lst ea (pya_lv l), .lst eb .nil, shaped_lv ok, rfl, ?_⟩
  have e : PyData.eqv (.list (lvP l)) (.list []) = decide (l = []) := by
    cases l with
    | nil => rfl
    | cons p l => simp [lvP, PyData.eqv, PyData.eqvAll]
  rw [e]
  exact k
def sp_raw_first : SpD := fun ds h Q _ => ∃ (M : Mch) (n : Nat), ds = [mchD M, .int (n : Nat)] ∧ M.ok ∧ n ≤ 40 ∧ ∀ r, h r = none → Q (.ref r) (put h r (.lst ((M.firsts n).map D.str)))
/-- raw_first(machine, many); slots: machine 0, many 1, level 2, alive 3, found 4, word 5, state 6, c 7, q 8 -/
def N_raw_first : List Str := ["machine", "many", "level", "alive", "found", "word", "state", "c", "q"]
def m_raw_first : MS := dSeq (dAsg (dTup (dCons (dCall 1 sp_living (dCons (dVar 0) (dNil))) (dCons (dLst (dNil)) (dNil)))) (dgTup 2 (dgCons (dName 3) (dgCons (dName 4) (dgNil))))) (dSeq (dAsg (dIf (dTest (dOp (dIn false) (dC (.int 0)) (dVar 3))) (dLst (dCons (dTup (dCons (dC (.str [])) (dCons (dC (.int 0)) (dNil)))) (dNil))) (dLst (dNil))) (dName 2)) (dSeq (dWhile (dAnd (dTest (dOp dNe (dVar 2) (dLst (dNil)))) (dTest (dOp dLt (dCB bLen (dCons (dVar 4) (dNil))) (dVar 1)))) (dSeq (dDrop (dMt "list" mExtend (dVar 4) (dCons (dLc (dISeq (dVar 2)) (.tup [.nm 5, .nm 6]) (dTest (dOp (dIn false) (dVar 6) (dOp dIx (dVar 0) (dC (.int 2))))) (dVar 5) [5, 6]) (dNil)))) (dAsg (dLc2 (dISeq (dVar 2)) (.tup [.nm 5, .nm 6]) (dYes) (dISeq (dCall 2 sp_nexts (dCons (dVar 0) (dCons (dVar 6) (dNil))))) (.tup [.nm 7, .nm 8]) (dTest (dOp (dIn false) (dVar 8) (dVar 3))) (dTup (dCons (dOp dAdd (dVar 5) (dVar 7)) (dCons (dVar 8) (dNil)))) [5, 6, 7, 8] [7, 8]) (dName 2)))) (dRet (dSl (dVar 4) (dNoPart) (dPart (dVar 1))))))
theorem st_raw_first (a0 a1 : D) : startD N_raw_first [a0, a1] = [some a0, some a1, none, none, none, none, none, none, none] := rfl
def t_raw_first_1 : MS := dSeq (dAsg (dIf (dTest (dOp (dIn false) (dC (.int 0)) (dVar 3))) (dLst (dCons (dTup (dCons (dC (.str [])) (dCons (dC (.int 0)) (dNil)))) (dNil))) (dLst (dNil))) (dName 2)) (dSeq (dWhile (dAnd (dTest (dOp dNe (dVar 2) (dLst (dNil)))) (dTest (dOp dLt (dCB bLen (dCons (dVar 4) (dNil))) (dVar 1)))) (dSeq (dDrop (dMt "list" mExtend (dVar 4) (dCons (dLc (dISeq (dVar 2)) (.tup [.nm 5, .nm 6]) (dTest (dOp (dIn false) (dVar 6) (dOp dIx (dVar 0) (dC (.int 2))))) (dVar 5) [5, 6]) (dNil)))) (dAsg (dLc2 (dISeq (dVar 2)) (.tup [.nm 5, .nm 6]) (dYes) (dISeq (dCall 2 sp_nexts (dCons (dVar 0) (dCons (dVar 6) (dNil))))) (.tup [.nm 7, .nm 8]) (dTest (dOp (dIn false) (dVar 8) (dVar 3))) (dTup (dCons (dOp dAdd (dVar 5) (dVar 7)) (dCons (dVar 8) (dNil)))) [5, 6, 7, 8] [7, 8]) (dName 2)))) (dRet (dSl (dVar 4) (dNoPart) (dPart (dVar 1)))))
def t_raw_first_2 : MS := dSeq (dWhile (dAnd (dTest (dOp dNe (dVar 2) (dLst (dNil)))) (dTest (dOp dLt (dCB bLen (dCons (dVar 4) (dNil))) (dVar 1)))) (dSeq (dDrop (dMt "list" mExtend (dVar 4) (dCons (dLc (dISeq (dVar 2)) (.tup [.nm 5, .nm 6]) (dTest (dOp (dIn false) (dVar 6) (dOp dIx (dVar 0) (dC (.int 2))))) (dVar 5) [5, 6]) (dNil)))) (dAsg (dLc2 (dISeq (dVar 2)) (.tup [.nm 5, .nm 6]) (dYes) (dISeq (dCall 2 sp_nexts (dCons (dVar 0) (dCons (dVar 6) (dNil))))) (.tup [.nm 7, .nm 8]) (dTest (dOp (dIn false) (dVar 8) (dVar 3))) (dTup (dCons (dOp dAdd (dVar 5) (dVar 7)) (dCons (dVar 8) (dNil)))) [5, 6, 7, 8] [7, 8]) (dName 2)))) (dRet (dSl (dVar 4) (dNoPart) (dPart (dVar 1))))
def t_raw_first_3 : MS := dRet (dSl (dVar 4) (dNoPart) (dPart (dVar 1)))
/-- the pairs that nexts tells -/
def nextsD (l : List (Nat × Option Nat)) : List D := l.filterMap fun co => match co.2 with
    | some b => some (.tup [.str [co.1], .int (b : Nat)])
    | none => none
theorem nexts_nxt {M : Mch} (w : Tx) (g : D → Bool) (f : D → D) (hg : ∀ c b, g (.tup [.str [c], .int (b : Nat)]) = M.live b) (hf : ∀ c b, f (.tup [.str [c], .int (b : Nat)]) = .tup [.str (w ++ [c]), .int (b : Nat)]) : ∀ l : List (Nat × Option Nat),
    ((nextsD l).filter g).map f = lvD (l.filterMap fun co => match co.2 with
      | some a => if M.live a then some (w ++ [co.1], a) else none
      | none => none)
  | [] => rfl
  | (c, none) :: l => nexts_nxt w g f hg hf l
  | (c, some b) :: l => by
    have ih := nexts_nxt w g f hg hf l
    show ((D.tup [.str [c], .int (b : Nat)] :: nextsD l).filter g).map f = lvD (List.filterMap _ ((c, some b) :: l))
    by_cases z : M.live b = true
    · rw [List.filter_cons_of_pos (by rw [hg]; exact z), List.map_cons, hf, ih, List.filterMap_cons_some (b := (w ++ [c], b)) (by simp [z])]
      rfl
    · rw [List.filter_cons_of_neg (by rw [hg]; exact z), ih, List.filterMap_cons_none (by simp [z])]
theorem okTx_L {M : Mch} (ok : M.ok) {x : Tx} (h : ∀ c ∈ x, c ∈ M.L) : okTx x := by
  refine okTx_small ?_
  unfold madeOf
  rw [List.all_eq_true]
  exact fun c hc => decide_eq_true (ok.small c (h c hc))
theorem lev_okTx {M : Mch} (ok : M.ok) {K : Nat} : ∀ p ∈ M.lev K, okTx p.1 := fun p hp => okTx_L ok (lev_ok ok K p hp).2.2
theorem live_lt {M : Mch} (ok : M.ok) {q : Nat} (h : M.live q = true) : q < M.R.length := al_lt ok h
theorem fw1_lv {M : Mch} {g : D → Bool} {f : D → D} (hg : ∀ w (q : Nat), g (.tup [.str w, .int (q : Nat)]) = decide (q ∈ M.E)) (hf : ∀ w d, f (.tup [.str w, d]) = .str w) : ∀ l : List Nd, ((lvD l).filter g).map f = (M.fw1 l).map D.str
  | [] => rfl
  | p :: l => by
    have ih := fw1_lv hg hf l
    show ((D.tup [.str p.1, .int (p.2 : Nat)] :: lvD l).filter g).map f = (List.map (·.1) (List.filter _ (p :: l))).map D.str
    by_cases z : p.2 ∈ M.E
    · rw [List.filter_cons_of_pos (by rw [hg]; exact decide_eq_true z), List.map_cons, hf, ih, List.filter_cons_of_pos (by simpa using z)]
      rfl
    · rw [List.filter_cons_of_neg (by rw [hg]; simpa using z), ih, List.filter_cons_of_neg (by simpa using z)]
      rfl
theorem fw1_len {M : Mch} (l : List Nd) : (M.fw1 l).length ≤ l.length := by
  unfold Mch.fw1
  rw [List.length_map]
  exact List.length_filter_le _ _
theorem end_raw_first {M : Mch} {n : Nat} (ok : M.ok) (n40 : n ≤ 40) {Q : DK} {h g : DHp} {pl pa pf : Addr} {kvs : List (KeyD × D)} (DD : DEnds) (hrt : DD.rt = Fgt Q) (l : Less h g) (nf : h pf = none) (lf : pl ≠ pf)
    (el : g pl = some (.lst (lvD (M.lev 0)))) (ea : g pa = some (.dct kvs)) (ef : g pf = some (.lst [])) (hk : Keys kvs M.live) (q : ∀ r, h r = none → Q (.ref r) (put h r (.lst ((M.firsts n).map D.str)))) :
    t_raw_first_2 DD [some (mchD M), some (.int (n : Nat)), some (.ref pl), some (.ref pa), some (.ref pf), none, none, none, none] g := by
  have hs := sizeLine_eq
  simp only [t_raw_first_2, forall_const, true_implies, false_implies, implies_true, and_true, true_and, reduceCtorEq, Bool.not_true, Bool.not_false, Bool.true_xor, Bool.false_xor, Option.some.injEq, exists_eq_left', put_same, onB_bl, dSeq, dNext, dBreak, dDrop, dRet, dRetN, dIfS, dName, dgNil, dgCons, dgTup, dAsg, dPar, dPar3, dSetI, dgSub, dRaise, dVar, dC, dOp, dTest, dAnd, dOr, dNot, dAndV, dOrV, dNotV, dIf, dNil, dCons, dTup, dLst, dCall, dCB, dMt, dMt0, dInC, dIxC, dChain, dNeg, dNoPart, dPart, dSl, exE, dIsA, dCat, catchD, subE, Ex.ix, endsD, dLc, dISeq, dIRng1, dIRng2, dIEnum, dFor, dDcT, dDcK, dCallV, mStarts_str, mIndex_str, mUpper_str, dSortSet, dListZip, dListRng, dDnew, dLc2, List.getElem?_cons_zero, List.getElem?_cons_succ, List.set_cons_zero, List.set_cons_succ, onL_lst, isA_non, isA_int_int, isA_bool_int, isA_str_int, isA_tup_int, isA_lst_int, isA_int_str, isA_bool_str, isA_str_str, isA_tup_str, isA_lst_str, isA_int_tup, isA_bool_tup, isA_str_tup, isA_tup_tup, isA_lst_tup, isA_int_bl, isA_bool_bl, isA_str_bl, isA_tup_bl, isA_lst_bl, dAdd_int, dAdd_str, dAdd_tup, dAdd_ref, dSub_int, dLt_int, dLe_int, dGt_int, dGe_int, dMul_int, dMul_str, dMul_ref, dMod_int, dFdiv_int, dPow_int, dIsN_, dNotN_, isNon_int, isNon_non, dEq_str, dEq_int, dNe_str, dNe_int, dIn_sign, dIx_str, dIx_tup, dIx_scr, dIx_ref, dCut_str, dCut_tup, dCut_scr, dCut_ref, bLen_str, bLen_tup, bLen_ref, bInt_int, bInt_bl, bTup_tup, bTup_ref, bList_str, bList_tup, bList_ref, tyD_str, mAppend_ref, mExtend_ref, tyL, dSetL_ref, mJoin_ref, bMin_ref, bMax_ref, atI_0, atI_1, atI_2, dWhile, hrt]
  refine ⟨fun m δ g => ∃ (K : Nat) (pl : Addr), δ = [some (mchD M), some (.int (n : Nat)), some (.ref pl), some (.ref pa), some (.ref pf), none, none, none, none] ∧ Less h g ∧ pl ≠ pf ∧ g pl = some (.lst (lvD (M.lev K))) ∧ g pa = some (.dct kvs) ∧ g pf = some (.lst ((M.fw K).map D.str)) ∧ K ≤ 295 ∧ m = 300 - K,
    ⟨_, 0, pl, rfl, l, lf, el, ea, ef, by omega, rfl⟩, ?_⟩
  rintro m δ g ⟨K, pl, rfl, l, lf, el, ea, ef, hK, rfl⟩
  simp only [forall_const, true_implies, false_implies, implies_true, and_true, true_and, reduceCtorEq, Bool.not_true, Bool.not_false, Bool.true_xor, Bool.false_xor, Option.some.injEq, exists_eq_left', put_same, onB_bl, dSeq, dNext, dBreak, dDrop, dRet, dRetN, dIfS, dName, dgNil, dgCons, dgTup, dAsg, dPar, dPar3, dSetI, dgSub, dRaise, dVar, dC, dOp, dTest, dAnd, dOr, dNot, dAndV, dOrV, dNotV, dIf, dNil, dCons, dTup, dLst, dCall, dCB, dMt, dMt0, dInC, dIxC, dChain, dNeg, dNoPart, dPart, dSl, exE, dIsA, dCat, catchD, subE, Ex.ix, endsD, dLc, dISeq, dIRng1, dIRng2, dIEnum, dFor, dDcT, dDcK, dCallV, mStarts_str, mIndex_str, mUpper_str, dSortSet, dListZip, dListRng, dDnew, dLc2, List.getElem?_cons_zero, List.getElem?_cons_succ, List.set_cons_zero, List.set_cons_succ, onL_lst, isA_non, isA_int_int, isA_bool_int, isA_str_int, isA_tup_int, isA_lst_int, isA_int_str, isA_bool_str, isA_str_str, isA_tup_str, isA_lst_str, isA_int_tup, isA_bool_tup, isA_str_tup, isA_tup_tup, isA_lst_tup, isA_int_bl, isA_bool_bl, isA_str_bl, isA_tup_bl, isA_lst_bl, dAdd_int, dAdd_str, dAdd_tup, dAdd_ref, dSub_int, dLt_int, dLe_int, dGt_int, dGe_int, dMul_int, dMul_str, dMul_ref, dMod_int, dFdiv_int, dPow_int, dIsN_, dNotN_, isNon_int, isNon_non, dEq_str, dEq_int, dNe_str, dNe_int, dIn_sign, dIx_str, dIx_tup, dIx_scr, dIx_ref, dCut_str, dCut_tup, dCut_scr, dCut_ref, bLen_str, bLen_tup, bLen_ref, bInt_int, bInt_bl, bTup_tup, bTup_ref, bList_str, bList_tup, bList_ref, tyD_str, mAppend_ref, mExtend_ref, tyL, dSetL_ref, mJoin_ref, bMin_ref, bMax_ref, atI_0, atI_1, atI_2]
  refine ⟨by show (0 : Nat) ≤ sizeLine; omega, fun p1 n1 => ?_⟩
  refine dNe_lv (lev_okTx ok) (put_old el n1) put_same ?_
  have ef1 := put_old (o := .lst []) ef n1
  have stop : (M.lev K = [] ∨ n ≤ (M.fw K).length) → ∀ u, put g p1 (.lst []) u = none → Fgt Q (.ref u) (put (put g p1 (.lst [])) u (.lst (cutD ((M.fw K).map D.str) none (some (n : Int))))) := fun z u nu => by
    have e : cutD ((M.fw K).map D.str) none (some (n : Int)) = (M.firsts n).map D.str := by
      rw [← firsts_at (by omega) z, List.map_take]
      unfold cutD
      rw [HT.sIx_none, HT.sIx_nat]
      simp [List.take_eq_take_iff]
    rw [e]
    exact fgt_new (less_new l n1) nu q
  simp only [onB_bl]
  refine ⟨fun hz => ?_, fun hz => ?_⟩
  · have hne : M.lev K ≠ [] := by simpa using hz
    simp only [forall_const, true_implies, false_implies, implies_true, and_true, true_and, reduceCtorEq, Bool.not_true, Bool.not_false, Bool.true_xor, Bool.false_xor, Option.some.injEq, exists_eq_left', put_same, onB_bl, dSeq, dNext, dBreak, dDrop, dRet, dRetN, dIfS, dName, dgNil, dgCons, dgTup, dAsg, dPar, dPar3, dSetI, dgSub, dRaise, dVar, dC, dOp, dTest, dAnd, dOr, dNot, dAndV, dOrV, dNotV, dIf, dNil, dCons, dTup, dLst, dCall, dCB, dMt, dMt0, dInC, dIxC, dChain, dNeg, dNoPart, dPart, dSl, exE, dIsA, dCat, catchD, subE, Ex.ix, endsD, dLc, dISeq, dIRng1, dIRng2, dIEnum, dFor, dDcT, dDcK, dCallV, mStarts_str, mIndex_str, mUpper_str, dSortSet, dListZip, dListRng, dDnew, dLc2, List.getElem?_cons_zero, List.getElem?_cons_succ, List.set_cons_zero, List.set_cons_succ, onL_lst, isA_non, isA_int_int, isA_bool_int, isA_str_int, isA_tup_int, isA_lst_int, isA_int_str, isA_bool_str, isA_str_str, isA_tup_str, isA_lst_str, isA_int_tup, isA_bool_tup, isA_str_tup, isA_tup_tup, isA_lst_tup, isA_int_bl, isA_bool_bl, isA_str_bl, isA_tup_bl, isA_lst_bl, dAdd_int, dAdd_str, dAdd_tup, dAdd_ref, dSub_int, dLt_int, dLe_int, dGt_int, dGe_int, dMul_int, dMul_str, dMul_ref, dMod_int, dFdiv_int, dPow_int, dIsN_, dNotN_, isNon_int, isNon_non, dEq_str, dEq_int, dNe_str, dNe_int, dIn_sign, dIx_str, dIx_tup, dIx_scr, dIx_ref, dCut_str, dCut_tup, dCut_scr, dCut_ref, bLen_str, bLen_tup, bLen_ref, bInt_int, bInt_bl, bTup_tup, bTup_ref, bList_str, bList_tup, bList_ref, tyD_str, mAppend_ref, mExtend_ref, tyL, dSetL_ref, mJoin_ref, bMin_ref, bMax_ref, atI_0, atI_1, atI_2, ef1]
    refine ⟨fun hlt => ?_, fun hlt => ?_⟩
    · have hlt : (M.fw K).length < n := by
        have := of_decide_eq_true hlt
        simp at this
        omega
      have hsm := lev_small ok n40 hlt
      have hrf := runs_few ok n40 hne hlt
      have el1 := put_old (o := .lst []) el n1
      simp only [el1, true_and]
      refine lcB_filter (fun d => match d with | .tup [_, .int q] => decide (q.toNat ∈ M.E) | _ => false) (fun d => match d with | .tup (w :: _) => w | _ => .non) el1 (by simp [lvD]; omega) (fun d hd => ?_) fun r nr => ?_
      · obtain ⟨p, hp, rfl⟩ := List.mem_map.mp hd
        refine ⟨_, rfl, fun K2 k => ?_, fun _ K2 k => k⟩
        simp only [forall_const, true_implies, false_implies, implies_true, and_true, true_and, reduceCtorEq, Bool.not_true, Bool.not_false, Bool.true_xor, Bool.false_xor, Option.some.injEq, exists_eq_left', put_same, onB_bl, dSeq, dNext, dBreak, dDrop, dRet, dRetN, dIfS, dName, dgNil, dgCons, dgTup, dAsg, dPar, dPar3, dSetI, dgSub, dRaise, dVar, dC, dOp, dTest, dAnd, dOr, dNot, dAndV, dOrV, dNotV, dIf, dNil, dCons, dTup, dLst, dCall, dCB, dMt, dMt0, dInC, dIxC, dChain, dNeg, dNoPart, dPart, dSl, exE, dIsA, dCat, catchD, subE, Ex.ix, endsD, dLc, dISeq, dIRng1, dIRng2, dIEnum, dFor, dDcT, dDcK, dCallV, mStarts_str, mIndex_str, mUpper_str, dSortSet, dListZip, dListRng, dDnew, dLc2, List.getElem?_cons_zero, List.getElem?_cons_succ, List.set_cons_zero, List.set_cons_succ, onL_lst, isA_non, isA_int_int, isA_bool_int, isA_str_int, isA_tup_int, isA_lst_int, isA_int_str, isA_bool_str, isA_str_str, isA_tup_str, isA_lst_str, isA_int_tup, isA_bool_tup, isA_str_tup, isA_tup_tup, isA_lst_tup, isA_int_bl, isA_bool_bl, isA_str_bl, isA_tup_bl, isA_lst_bl, dAdd_int, dAdd_str, dAdd_tup, dAdd_ref, dSub_int, dLt_int, dLe_int, dGt_int, dGe_int, dMul_int, dMul_str, dMul_ref, dMod_int, dFdiv_int, dPow_int, dIsN_, dNotN_, isNon_int, isNon_non, dEq_str, dEq_int, dNe_str, dNe_int, dIn_sign, dIx_str, dIx_tup, dIx_scr, dIx_ref, dCut_str, dCut_tup, dCut_scr, dCut_ref, bLen_str, bLen_tup, bLen_ref, bInt_int, bInt_bl, bTup_tup, bTup_ref, bList_str, bList_tup, bList_ref, tyD_str, mAppend_ref, mExtend_ref, tyL, dSetL_ref, mJoin_ref, bMin_ref, bMax_ref, atI_0, atI_1, atI_2, dwipe]
        refine ⟨.tup (natsD M.E), atI_2, dIn_ends (o := some p.2) ?_⟩
        simpa [Mch.fin, onB_bl] using k
      · have ew : ((lvD (M.lev K)).filter fun d => (match d with | .tup [_, .int q] => decide (q.toNat ∈ M.E) | _ => false)).map (fun d => (match d with | .tup (w :: _) => w | _ => D.non)) = (M.fw1 (M.lev K)).map D.str :=
          fw1_lv (fun w q => by simp) (fun w d => rfl) _
        rw [ew]
        have ef2 := put_old (o := .lst ((M.fw1 (M.lev K)).map D.str)) ef1 nr
        have el2 := put_old (o := .lst ((M.fw1 (M.lev K)).map D.str)) el1 nr
        have ea2 := put_old (o := .lst ((M.fw1 (M.lev K)).map D.str)) (put_old (o := .lst []) ea n1) nr
        have lG : Less h (put (put (put g p1 (.lst [])) r (.lst ((M.fw1 (M.lev K)).map D.str))) pf (.lst ((M.fw (K + 1)).map D.str))) := less_upd (less_new (less_new l n1) nr) nf
        have hfl := fw1_len (M := M) (M.lev K)
        have npa : pa ≠ pf := fun z => by subst z; rw [ea] at ef; cases ef
        simp only [mExtend_ref, ef2, put_same, onL_lst]
        refine ⟨by rw [List.length_map, List.length_map]; omega, ?_⟩
        have eapp : (M.fw K).map D.str ++ (M.fw1 (M.lev K)).map D.str = (M.fw (K + 1)).map D.str := by
          show _ = (M.fw K ++ M.fw1 (M.lev K)).map D.str
          rw [List.map_append]
        rw [eapp]
        generalize eG : put (put (put g p1 (.lst [])) r (.lst ((M.fw1 (M.lev K)).map D.str))) pf (.lst ((M.fw (K + 1)).map D.str)) = G at lG
        have Gl : G pl = some (.lst (lvD (M.lev K))) := by rw [← eG, put_ne lf]; exact el2
        have Ga : G pa = some (.dct kvs) := by rw [← eG, put_ne npa]; exact ea2
        have Gf : G pf = some (.lst ((M.fw (K + 1)).map D.str)) := by rw [← eG, put_same]
        simp only [Gl]
        refine ⟨fun i acc h' => Less G h' ∧ i ≤ (M.lev K).length ∧ acc = lvD (((M.lev K).take i).flatMap M.nxt), ⟨Less.refl, Nat.zero_le _, rfl⟩, ?_⟩
        rintro i acc h' ⟨l', hi, rfl⟩
        refine ⟨l' _ _ Gl, fun e u nu => ?_, fun d hd => ?_⟩
        · have e : i = (M.lev K).length := by simpa [lvD] using e
          subst e
          rw [List.take_length]
          refine ⟨300 - (K + 1), by omega, K + 1, u, rfl, less_new (fun a o e => l' a o (lG a o e)) nu, fun z => ?_, put_same, put_old (l' _ _ Ga) nu, put_old (l' _ _ Gf) nu, by omega, rfl⟩
          subst z
          rw [l' _ _ Gf] at nu
          cases nu
        · unfold lvD at hd
          rw [List.getElem?_map] at hd
          obtain ⟨p, hp, rfl⟩ := Option.map_eq_some_iff.mp hd
          obtain ⟨hlt2, hp'⟩ := List.getElem?_eq_some_iff.mp hp
          have hpm := lev_ok ok K p (List.mem_of_getElem? hp)
          refine ⟨_, rfl, fun _ => ?_, fun z => by cases z⟩
          simp only [forall_const, true_implies, false_implies, implies_true, and_true, true_and, reduceCtorEq, Bool.not_true, Bool.not_false, Bool.true_xor, Bool.false_xor, Option.some.injEq, exists_eq_left', put_same, onB_bl, dSeq, dNext, dBreak, dDrop, dRet, dRetN, dIfS, dName, dgNil, dgCons, dgTup, dAsg, dPar, dPar3, dSetI, dgSub, dRaise, dVar, dC, dOp, dTest, dAnd, dOr, dNot, dAndV, dOrV, dNotV, dIf, dNil, dCons, dTup, dLst, dCall, dCB, dMt, dMt0, dInC, dIxC, dChain, dNeg, dNoPart, dPart, dSl, exE, dIsA, dCat, catchD, subE, Ex.ix, endsD, dLc, dISeq, dIRng1, dIRng2, dIEnum, dFor, dDcT, dDcK, dCallV, mStarts_str, mIndex_str, mUpper_str, dSortSet, dListZip, dListRng, dDnew, dLc2, List.getElem?_cons_zero, List.getElem?_cons_succ, List.set_cons_zero, List.set_cons_succ, onL_lst, isA_non, isA_int_int, isA_bool_int, isA_str_int, isA_tup_int, isA_lst_int, isA_int_str, isA_bool_str, isA_str_str, isA_tup_str, isA_lst_str, isA_int_tup, isA_bool_tup, isA_str_tup, isA_tup_tup, isA_lst_tup, isA_int_bl, isA_bool_bl, isA_str_bl, isA_tup_bl, isA_lst_bl, dAdd_int, dAdd_str, dAdd_tup, dAdd_ref, dSub_int, dLt_int, dLe_int, dGt_int, dGe_int, dMul_int, dMul_str, dMul_ref, dMod_int, dFdiv_int, dPow_int, dIsN_, dNotN_, isNon_int, isNon_non, dEq_str, dEq_int, dNe_str, dNe_int, dIn_sign, dIx_str, dIx_tup, dIx_scr, dIx_ref, dCut_str, dCut_tup, dCut_scr, dCut_ref, bLen_str, bLen_tup, bLen_ref, bInt_int, bInt_bl, bTup_tup, bTup_ref, bList_str, bList_tup, bList_ref, tyD_str, mAppend_ref, mExtend_ref, tyL, dSetL_ref, mJoin_ref, bMin_ref, bMax_ref, atI_0, atI_1, atI_2, dwipe]
          refine ⟨rfl, M, p.2, rfl, ok, live_lt ok hpm.1, fun u nu => ?_⟩
          simp only [put_same]
          have ea' := put_old (o := .lst (nextsD (M.L.zip (M.R.getD p.2 [])))) (l' _ _ Ga) nu
          have hln : (nextsD (M.L.zip (M.R.getD p.2 []))).length ≤ 3 := by
            unfold nextsD
            refine Nat.le_trans (List.length_filterMap_le _ _) ?_
            rw [List.length_zip]
            have := ok.l3
            omega
          have hla := flat_len ok ((M.lev K).take i)
          refine lcI_filter (fun d => match d with | .tup [_, .int b] => M.live b.toNat | _ => false) (fun d => match d with | .tup [.str c, b] => .tup [.str (p.1 ++ c), b] | _ => .non) put_same ?_ (fun d hd => ?_) ⟨less_new l' nu, hlt2, ?_⟩
          · rw [List.length_take] at hla
            have : (lvD (((M.lev K).take i).flatMap M.nxt)).length = (((M.lev K).take i).flatMap M.nxt).length := by simp [lvD]
            rw [this]
            show _ + (nextsD (M.L.zip (M.R.getD p.2 []))).length ≤ _
            omega
          · obtain ⟨⟨c, o⟩, hco, e⟩ := List.mem_filterMap.mp hd
            cases o with
            | none => cases e
            | some b =>
              cases e
              refine ⟨_, rfl, fun K2 k => ?_, fun _ K2 k => ?_⟩
              · simp only [forall_const, true_implies, false_implies, implies_true, and_true, true_and, reduceCtorEq, Bool.not_true, Bool.not_false, Bool.true_xor, Bool.false_xor, Option.some.injEq, exists_eq_left', put_same, onB_bl, dSeq, dNext, dBreak, dDrop, dRet, dRetN, dIfS, dName, dgNil, dgCons, dgTup, dAsg, dPar, dPar3, dSetI, dgSub, dRaise, dVar, dC, dOp, dTest, dAnd, dOr, dNot, dAndV, dOrV, dNotV, dIf, dNil, dCons, dTup, dLst, dCall, dCB, dMt, dMt0, dInC, dIxC, dChain, dNeg, dNoPart, dPart, dSl, exE, dIsA, dCat, catchD, subE, Ex.ix, endsD, dLc, dISeq, dIRng1, dIRng2, dIEnum, dFor, dDcT, dDcK, dCallV, mStarts_str, mIndex_str, mUpper_str, dSortSet, dListZip, dListRng, dDnew, dLc2, List.getElem?_cons_zero, List.getElem?_cons_succ, List.set_cons_zero, List.set_cons_succ, onL_lst, isA_non, isA_int_int, isA_bool_int, isA_str_int, isA_tup_int, isA_lst_int, isA_int_str, isA_bool_str, isA_str_str, isA_tup_str, isA_lst_str, isA_int_tup, isA_bool_tup, isA_str_tup, isA_tup_tup, isA_lst_tup, isA_int_bl, isA_bool_bl, isA_str_bl, isA_tup_bl, isA_lst_bl, dAdd_int, dAdd_str, dAdd_tup, dAdd_ref, dSub_int, dLt_int, dLe_int, dGt_int, dGe_int, dMul_int, dMul_str, dMul_ref, dMod_int, dFdiv_int, dPow_int, dIsN_, dNotN_, isNon_int, isNon_non, dEq_str, dEq_int, dNe_str, dNe_int, dIn_sign, dIx_str, dIx_tup, dIx_scr, dIx_ref, dCut_str, dCut_tup, dCut_scr, dCut_ref, bLen_str, bLen_tup, bLen_ref, bInt_int, bInt_bl, bTup_tup, bTup_ref, bList_str, bList_tup, bList_ref, tyD_str, mAppend_ref, mExtend_ref, tyL, dSetL_ref, mJoin_ref, bMin_ref, bMax_ref, atI_0, atI_1, atI_2, dwipe]
                refine dIn_keys ea' hk ?_
                simpa [onB_bl] using k
              · simp only [forall_const, true_implies, false_implies, implies_true, and_true, true_and, reduceCtorEq, Bool.not_true, Bool.not_false, Bool.true_xor, Bool.false_xor, Option.some.injEq, exists_eq_left', put_same, onB_bl, dSeq, dNext, dBreak, dDrop, dRet, dRetN, dIfS, dName, dgNil, dgCons, dgTup, dAsg, dPar, dPar3, dSetI, dgSub, dRaise, dVar, dC, dOp, dTest, dAnd, dOr, dNot, dAndV, dOrV, dNotV, dIf, dNil, dCons, dTup, dLst, dCall, dCB, dMt, dMt0, dInC, dIxC, dChain, dNeg, dNoPart, dPart, dSl, exE, dIsA, dCat, catchD, subE, Ex.ix, endsD, dLc, dISeq, dIRng1, dIRng2, dIEnum, dFor, dDcT, dDcK, dCallV, mStarts_str, mIndex_str, mUpper_str, dSortSet, dListZip, dListRng, dDnew, dLc2, List.getElem?_cons_zero, List.getElem?_cons_succ, List.set_cons_zero, List.set_cons_succ, onL_lst, isA_non, isA_int_int, isA_bool_int, isA_str_int, isA_tup_int, isA_lst_int, isA_int_str, isA_bool_str, isA_str_str, isA_tup_str, isA_lst_str, isA_int_tup, isA_bool_tup, isA_str_tup, isA_tup_tup, isA_lst_tup, isA_int_bl, isA_bool_bl, isA_str_bl, isA_tup_bl, isA_lst_bl, dAdd_int, dAdd_str, dAdd_tup, dAdd_ref, dSub_int, dLt_int, dLe_int, dGt_int, dGe_int, dMul_int, dMul_str, dMul_ref, dMod_int, dFdiv_int, dPow_int, dIsN_, dNotN_, isNon_int, isNon_non, dEq_str, dEq_int, dNe_str, dNe_int, dIn_sign, dIx_str, dIx_tup, dIx_scr, dIx_ref, dCut_str, dCut_tup, dCut_scr, dCut_ref, bLen_str, bLen_tup, bLen_ref, bInt_int, bInt_bl, bTup_tup, bTup_ref, bList_str, bList_tup, bList_ref, tyD_str, mAppend_ref, mExtend_ref, tyL, dSetL_ref, mJoin_ref, bMin_ref, bMax_ref, atI_0, atI_1, atI_2, dwipe]
                have := hpm.2.1
                exact ⟨by simp; omega, by show (2 : Nat) ≤ sizeLine; omega, k⟩
          · have en := nexts_nxt (M := M) p.1 (fun d => match d with | .tup [_, .int b] => M.live b.toNat | _ => false) (fun d => match d with | .tup [.str c, b] => .tup [.str (p.1 ++ c), b] | _ => .non) (fun c b => by simp) (fun c b => rfl) (M.L.zip (M.R.getD p.2 []))
            have e3 : lvD (((M.lev K).take (i + 1)).flatMap M.nxt) = lvD (((M.lev K).take i).flatMap M.nxt) ++ lvD (M.nxt p) := by
              rw [List.take_succ_eq_append_getElem hlt2, List.flatMap_append, hp']
              simp [lvD]
            rw [e3]
            exact congrArg (_ ++ ·) en
    · have hge : n ≤ (M.fw K).length := by
        have := of_decide_eq_false hlt
        simp at this
        omega
      exact fun u nu => stop (.inr hge) u nu
  · have hnil : M.lev K = [] := by simpa using hz
    simp only [forall_const, true_implies, false_implies, implies_true, and_true, true_and, reduceCtorEq, Bool.not_true, Bool.not_false, Bool.true_xor, Bool.false_xor, Option.some.injEq, exists_eq_left', put_same, onB_bl, dSeq, dNext, dBreak, dDrop, dRet, dRetN, dIfS, dName, dgNil, dgCons, dgTup, dAsg, dPar, dPar3, dSetI, dgSub, dRaise, dVar, dC, dOp, dTest, dAnd, dOr, dNot, dAndV, dOrV, dNotV, dIf, dNil, dCons, dTup, dLst, dCall, dCB, dMt, dMt0, dInC, dIxC, dChain, dNeg, dNoPart, dPart, dSl, exE, dIsA, dCat, catchD, subE, Ex.ix, endsD, dLc, dISeq, dIRng1, dIRng2, dIEnum, dFor, dDcT, dDcK, dCallV, mStarts_str, mIndex_str, mUpper_str, dSortSet, dListZip, dListRng, dDnew, dLc2, List.getElem?_cons_zero, List.getElem?_cons_succ, List.set_cons_zero, List.set_cons_succ, onL_lst, isA_non, isA_int_int, isA_bool_int, isA_str_int, isA_tup_int, isA_lst_int, isA_int_str, isA_bool_str, isA_str_str, isA_tup_str, isA_lst_str, isA_int_tup, isA_bool_tup, isA_str_tup, isA_tup_tup, isA_lst_tup, isA_int_bl, isA_bool_bl, isA_str_bl, isA_tup_bl, isA_lst_bl, dAdd_int, dAdd_str, dAdd_tup, dAdd_ref, dSub_int, dLt_int, dLe_int, dGt_int, dGe_int, dMul_int, dMul_str, dMul_ref, dMod_int, dFdiv_int, dPow_int, dIsN_, dNotN_, isNon_int, isNon_non, dEq_str, dEq_int, dNe_str, dNe_int, dIn_sign, dIx_str, dIx_tup, dIx_scr, dIx_ref, dCut_str, dCut_tup, dCut_scr, dCut_ref, bLen_str, bLen_tup, bLen_ref, bInt_int, bInt_bl, bTup_tup, bTup_ref, bList_str, bList_tup, bList_ref, tyD_str, mAppend_ref, mExtend_ref, tyL, dSetL_ref, mJoin_ref, bMin_ref, bMax_ref, atI_0, atI_1, atI_2, ef1]
    exact fun u nu => stop (.inl hnil) u nu
theorem ok_raw_first (ds : List D) (h : DHp) (Q : DK) (E : DX) (hn : ds.length = 2) (q : sp_raw_first ds h Q E) : m_raw_first (endsD Q E) (startD N_raw_first ds) h := by
  have hs := sizeLine_eq
  obtain ⟨M, n, rfl, ok, n40, q⟩ := q
  rw [st_raw_first]
  show dSeq _ (dSeq _ t_raw_first_2) _ _ _
  generalize hT : t_raw_first_2 = T
  simp only [forall_const, true_implies, false_implies, implies_true, and_true, true_and, reduceCtorEq, Bool.not_true, Bool.not_false, Bool.true_xor, Bool.false_xor, Option.some.injEq, exists_eq_left', put_same, onB_bl, dSeq, dNext, dBreak, dDrop, dRet, dRetN, dIfS, dName, dgNil, dgCons, dgTup, dAsg, dPar, dPar3, dSetI, dgSub, dRaise, dVar, dC, dOp, dTest, dAnd, dOr, dNot, dAndV, dOrV, dNotV, dIf, dNil, dCons, dTup, dLst, dCall, dCB, dMt, dMt0, dInC, dIxC, dChain, dNeg, dNoPart, dPart, dSl, exE, dIsA, dCat, catchD, subE, Ex.ix, endsD, dLc, dISeq, dIRng1, dIRng2, dIEnum, dFor, dDcT, dDcK, dCallV, mStarts_str, mIndex_str, mUpper_str, dSortSet, dListZip, dListRng, dDnew, dLc2, List.getElem?_cons_zero, List.getElem?_cons_succ, List.set_cons_zero, List.set_cons_succ, onL_lst, isA_non, isA_int_int, isA_bool_int, isA_str_int, isA_tup_int, isA_lst_int, isA_int_str, isA_bool_str, isA_str_str, isA_tup_str, isA_lst_str, isA_int_tup, isA_bool_tup, isA_str_tup, isA_tup_tup, isA_lst_tup, isA_int_bl, isA_bool_bl, isA_str_bl, isA_tup_bl, isA_lst_bl, dAdd_int, dAdd_str, dAdd_tup, dAdd_ref, dSub_int, dLt_int, dLe_int, dGt_int, dGe_int, dMul_int, dMul_str, dMul_ref, dMod_int, dFdiv_int, dPow_int, dIsN_, dNotN_, isNon_int, isNon_non, dEq_str, dEq_int, dNe_str, dNe_int, dIn_sign, dIx_str, dIx_tup, dIx_scr, dIx_ref, dCut_str, dCut_tup, dCut_scr, dCut_ref, bLen_str, bLen_tup, bLen_ref, bInt_int, bInt_bl, bTup_tup, bTup_ref, bList_str, bList_tup, bList_ref, tyD_str, mAppend_ref, mExtend_ref, tyL, dSetL_ref, mJoin_ref, bMin_ref, bMax_ref, atI_0, atI_1, atI_2]
  refine ⟨rfl, M, rfl, ok, fun pa kvs na hk => ?_⟩
  simp only [forall_const, true_implies, false_implies, implies_true, and_true, true_and, reduceCtorEq, Bool.not_true, Bool.not_false, Bool.true_xor, Bool.false_xor, Option.some.injEq, exists_eq_left', put_same, onB_bl, dSeq, dNext, dBreak, dDrop, dRet, dRetN, dIfS, dName, dgNil, dgCons, dgTup, dAsg, dPar, dPar3, dSetI, dgSub, dRaise, dVar, dC, dOp, dTest, dAnd, dOr, dNot, dAndV, dOrV, dNotV, dIf, dNil, dCons, dTup, dLst, dCall, dCB, dMt, dMt0, dInC, dIxC, dChain, dNeg, dNoPart, dPart, dSl, exE, dIsA, dCat, catchD, subE, Ex.ix, endsD, dLc, dISeq, dIRng1, dIRng2, dIEnum, dFor, dDcT, dDcK, dCallV, mStarts_str, mIndex_str, mUpper_str, dSortSet, dListZip, dListRng, dDnew, dLc2, List.getElem?_cons_zero, List.getElem?_cons_succ, List.set_cons_zero, List.set_cons_succ, onL_lst, isA_non, isA_int_int, isA_bool_int, isA_str_int, isA_tup_int, isA_lst_int, isA_int_str, isA_bool_str, isA_str_str, isA_tup_str, isA_lst_str, isA_int_tup, isA_bool_tup, isA_str_tup, isA_tup_tup, isA_lst_tup, isA_int_bl, isA_bool_bl, isA_str_bl, isA_tup_bl, isA_lst_bl, dAdd_int, dAdd_str, dAdd_tup, dAdd_ref, dSub_int, dLt_int, dLe_int, dGt_int, dGe_int, dMul_int, dMul_str, dMul_ref, dMod_int, dFdiv_int, dPow_int, dIsN_, dNotN_, isNon_int, isNon_non, dEq_str, dEq_int, dNe_str, dNe_int, dIn_sign, dIx_str, dIx_tup, dIx_scr, dIx_ref, dCut_str, dCut_tup, dCut_scr, dCut_ref, bLen_str, bLen_tup, bLen_ref, bInt_int, bInt_bl, bTup_tup, bTup_ref, bList_str, bList_tup, bList_ref, tyD_str, mAppend_ref, mExtend_ref, tyL, dSetL_ref, mJoin_ref, bMin_ref, bMax_ref, atI_0, atI_1, atI_2]
  refine ⟨by show (0 : Nat) ≤ sizeLine; omega, fun pf nf => ⟨by show (2 : Nat) ≤ sizeLine; omega, rfl, ?_⟩⟩
  have nf' := none_old nf
  refine dIn_keys (q := 0) (put_old put_same nf) hk ?_
  simp only [onB_bl, Bool.false_xor]
  have lg : Less h (put (put h pa (.dct kvs)) pf (.lst [])) := less_new (less_new Less.refl na) nf
  refine ⟨fun z => ⟨by show (2 : Nat) ≤ sizeLine; omega, by show (1 : Nat) ≤ sizeLine; omega, fun pl nl => ?_⟩, fun z => ⟨by show (0 : Nat) ≤ sizeLine; omega, fun pl nl => ?_⟩⟩
  · have nl' := none_old nl
    subst hT
    refine end_raw_first ok n40 _ rfl (less_new lg nl) nf'.1 (Ne.symm nl'.2) (by rw [put_same]; simp [Mch.lev, z, lvD]) (put_old (put_old put_same nf) nl) (put_old put_same nl) hk q
  · have nl' := none_old nl
    subst hT
    refine end_raw_first ok n40 _ rfl (less_new lg nl) nf'.1 (Ne.symm nl'.2) (by rw [put_same]; simp [Mch.lev, z, lvD]) (put_old (put_old put_same nf) nl) (put_old put_same nl) hk q
def sp_first_words : SpD := fun ds h Q E => ∃ (M : Mch) (t : D), ds = [mchD M, t] ∧ M.ok ∧ Plain t h ∧ (within t 0 40 = false → E .count h) ∧ ∀ n : Nat, t = .int (n : Nat) → n ≤ 40 → ∀ r, h r = none → Q (.ref r) (put h r (.lst ((M.firsts n).map D.str)))
/-- first_words(machine, many); slots: machine 0, many 1 -/
def N_first_words : List Str := ["machine", "many"]
def m_first_words : MS := dSeq (dDrop (dCall 1 sp_need_machine (dCons (dVar 0) (dNil)))) (dSeq (dDrop (dCall 1 sp_need_many (dCons (dVar 1) (dNil)))) (dRet (dCall 2 sp_raw_first (dCons (dVar 0) (dCons (dVar 1) (dNil))))))
theorem st_first_words (a0 a1 : D) : startD N_first_words [a0, a1] = [some a0, some a1] := rfl
theorem ok_first_words (ds : List D) (h : DHp) (Q : DK) (E : DX) (hn : ds.length = 2) (q : sp_first_words ds h Q E) : m_first_words (endsD Q E) (startD N_first_words ds) h := by
  obtain ⟨M, t, rfl, ok, pt, q1, q⟩ := q
  simp only [m_first_words, st_first_words, forall_const, true_implies, false_implies, implies_true, and_true, true_and, reduceCtorEq, Bool.not_true, Bool.not_false, Bool.true_xor, Bool.false_xor, Option.some.injEq, exists_eq_left', put_same, onB_bl, dSeq, dNext, dBreak, dDrop, dRet, dRetN, dIfS, dName, dgNil, dgCons, dgTup, dAsg, dPar, dPar3, dSetI, dgSub, dRaise, dVar, dC, dOp, dTest, dAnd, dOr, dNot, dAndV, dOrV, dNotV, dIf, dNil, dCons, dTup, dLst, dCall, dCB, dMt, dMt0, dInC, dIxC, dChain, dNeg, dNoPart, dPart, dSl, exE, dIsA, dCat, catchD, subE, Ex.ix, endsD, dLc, dISeq, dIRng1, dIRng2, dIEnum, dFor, dDcT, dDcK, dCallV, mStarts_str, mIndex_str, mUpper_str, dSortSet, dListZip, dListRng, dDnew, dLc2, List.getElem?_cons_zero, List.getElem?_cons_succ, List.set_cons_zero, List.set_cons_succ, onL_lst, isA_non, isA_int_int, isA_bool_int, isA_str_int, isA_tup_int, isA_lst_int, isA_int_str, isA_bool_str, isA_str_str, isA_tup_str, isA_lst_str, isA_int_tup, isA_bool_tup, isA_str_tup, isA_tup_tup, isA_lst_tup, isA_int_bl, isA_bool_bl, isA_str_bl, isA_tup_bl, isA_lst_bl, dAdd_int, dAdd_str, dAdd_tup, dAdd_ref, dSub_int, dLt_int, dLe_int, dGt_int, dGe_int, dMul_int, dMul_str, dMul_ref, dMod_int, dFdiv_int, dPow_int, dIsN_, dNotN_, isNon_int, isNon_non, dEq_str, dEq_int, dNe_str, dNe_int, dIn_sign, dIx_str, dIx_tup, dIx_scr, dIx_ref, dCut_str, dCut_tup, dCut_scr, dCut_ref, bLen_str, bLen_tup, bLen_ref, bInt_int, bInt_bl, bTup_tup, bTup_ref, bList_str, bList_tup, bList_ref, tyD_str, mAppend_ref, mExtend_ref, tyL, dSetL_ref, mJoin_ref, bMin_ref, bMax_ref, atI_0, atI_1, atI_2]
  refine ⟨rfl, M, rfl, ok, rfl, pt, fun hw => ?_, fun hw => ⟨h, Less.refl, q1 hw⟩⟩
  obtain ⟨i, rfl⟩ := within_int hw
  simp only [within, Bool.and_eq_true, decide_eq_true_eq] at hw
  obtain ⟨n, rfl⟩ : ∃ n : Nat, i = n := ⟨i.toNat, by omega⟩
  exact ⟨rfl, M, n, rfl, ok, by omega, fun r nr => fgt_here (q n rfl (by omega) r nr)⟩
end Tw

namespace Tw
open PySem PySem.Spec PyProof.Rows L2
/-! ### a machine is drawn -/
def Rows (h0 g : DHp) (as : List Addr) (rows : List (List (Option Nat))) : Prop := as.length = rows.length ∧ as.Nodup ∧ ∀ (i : Nat) (a : Addr), as[i]? = some a → h0 a = none ∧ ∃ r, rows[i]? = some r ∧ g a = some (.lst (r.map optD))
theorem rows_nil {h0 g : DHp} : Rows h0 g [] [] := ⟨rfl, List.nodup_nil, fun i a e => by simp at e⟩
theorem rows_at {h0 g : DHp} {as : List Addr} {rows : List (List (Option Nat))} (R : Rows h0 g as rows) {a : Addr} (h : a ∈ as) : h0 a = none ∧ ∃ r, g a = some (.lst (r.map optD)) ∧ r ∈ rows := by
  obtain ⟨i, hi⟩ := List.mem_iff_getElem?.mp h
  obtain ⟨h1, r, h2, h3⟩ := R.2.2 i a hi
  exact ⟨h1, r, h3, List.mem_of_getElem? h2⟩
theorem rows_put {h0 g : DHp} {as : List Addr} {rows : List (List (Option Nat))} {u : Addr} {o : DO} (R : Rows h0 g as rows) (n : u ∉ as) : Rows h0 (put g u o) as rows :=
  ⟨R.1, R.2.1, fun i a e => by
    obtain ⟨h1, r, h2, h3⟩ := R.2.2 i a e
    refine ⟨h1, r, h2, ?_⟩
    rw [put_ne]
    · exact h3
    · intro z; subst z; exact n (List.mem_of_getElem? e)⟩
theorem rows_new {h0 g : DHp} {as : List Addr} {rows : List (List (Option Nat))} {u : Addr} {o : DO} (R : Rows h0 g as rows) (n : g u = none) : Rows h0 (put g u o) as rows :=
  rows_put R fun z => by
    obtain ⟨_, r, h3, _⟩ := rows_at R z
    rw [h3] at n; cases n
theorem rows_moved {h0 g g' : DHp} {p : Addr} {m : Int} {as : List Addr} {rows : List (List (Option Nat))} (R : Rows h0 g as rows) (hp : h0 p ≠ none) (M : Moved g p m g') : Rows h0 g' as rows :=
  ⟨R.1, R.2.1, fun i a e => by
    obtain ⟨h1, r, h2, h3⟩ := R.2.2 i a e
    exact ⟨h1, r, h2, moved_old M h3 fun z => by subst z; exact hp h1⟩⟩
theorem rows_snoc {h0 g : DHp} {as : List Addr} {rows : List (List (Option Nat))} {u : Addr} {r : List (Option Nat)} (R : Rows h0 g as rows) (n : g u = none) (n0 : h0 u = none) : Rows h0 (put g u (.lst (r.map optD))) (as ++ [u]) (rows ++ [r]) := by
  have hu : u ∉ as := fun z => by
    obtain ⟨_, r, h3, _⟩ := rows_at R z
    rw [h3] at n; cases n
  refine ⟨by simp [R.1], ?_, fun i a e => ?_⟩
  · rw [List.nodup_append]
    refine ⟨R.2.1, by simp, fun a ha b hb z => ?_⟩
    simp at hb
    subst hb
    subst z
    exact hu ha
  · by_cases hi : i < as.length
    · rw [List.getElem?_append_left hi] at e
      obtain ⟨h1, r', h2, h3⟩ := R.2.2 i a e
      refine ⟨h1, r', by rw [List.getElem?_append_left (by rw [← R.1]; exact hi)]; exact h2, ?_⟩
      rw [put_ne]
      · exact h3
      · intro z; subst z; exact hu (List.mem_of_getElem? e)
    · rw [List.getElem?_append_right (by omega)] at e
      have hi0 : i - as.length = 0 := by
        obtain ⟨q, _⟩ := List.getElem?_eq_some_iff.mp e
        simp at q
        omega
      rw [hi0] at e
      simp at e
      subst e
      refine ⟨n0, r, ?_, put_same⟩
      rw [List.getElem?_append_right (by rw [← R.1]; omega), ← R.1, hi0]
      rfl
theorem rows_set {h0 g : DHp} {as : List Addr} {rows : List (List (Option Nat))} {i : Nat} {a : Addr} {r : List (Option Nat)} (R : Rows h0 g as rows) (e : as[i]? = some a) : Rows h0 (put g a (.lst (r.map optD))) as (rows.set i r) := by
  refine ⟨by simp [R.1], R.2.1, fun j b ej => ?_⟩
  obtain ⟨h1, r', h2, h3⟩ := R.2.2 j b ej
  by_cases z : j = i
  · subst z
    rw [e] at ej
    cases ej
    obtain ⟨hlt, _⟩ := List.getElem?_eq_some_iff.mp h2
    exact ⟨h1, r, by rw [List.getElem?_set_self hlt], put_same⟩
  · have nb : b ≠ a := fun y => by
      subst y
      obtain ⟨hj, ej2⟩ := List.getElem?_eq_some_iff.mp ej
      obtain ⟨hi, ei2⟩ := List.getElem?_eq_some_iff.mp e
      have pw := List.pairwise_iff_getElem.mp R.2.1
      rcases Nat.lt_or_gt_of_ne z with y | y
      · exact pw j i hj hi y (ej2.trans ei2.symm)
      · exact pw i j hi hj y (ei2.trans ej2.symm)
    exact ⟨h1, r', by rw [List.getElem?_set_ne (Ne.symm z)]; exact h2, by rw [put_ne nb]; exact h3⟩
theorem mv_none {h g : DHp} {p a : Addr} {m : Int} (M : Mv h p m g) (n : g a = none) : h a = none := by
  obtain ⟨c, k, v, k', v', hp, h1, h2, l⟩ := M
  exact (none_old (less_none l n)).1
/-- rows as a machine has them -/
def goodRows (L : Tx) (n : Nat) (rows : List (List (Option Nat))) : Prop := ∀ r ∈ rows, r.length = L.length ∧ ∀ q, some q ∈ r → q < n
theorem good_set {L : Tx} {n i j b : Nat} {rows : List (List (Option Nat))} {r : List (Option Nat)} (G : goodRows L n rows) (h : r ∈ rows) (hb : b < n) : goodRows L n (rows.set i (r.set j (some b))) := by
  intro r' hr'
  rcases List.mem_or_eq_of_mem_set hr' with z | z
  · exact G r' z
  · subst z
    refine ⟨by simp [(G r h).1], fun q hq => ?_⟩
    rcases List.mem_or_eq_of_mem_set hq with z | z
    · exact (G r h).2 q z
    · cases z; exact hb
def sp__law_any_machine : SpD := fun ds h Q _ => match ds with
  | [.ref p, .int many] => Pen h p 999000 ∧ 1 ≤ many ∧ many ≤ 6 ∧ ∀ M g, M.ok → Moved h p 100 g → Q (mchD M) g
  | _ => False
/-- _law_any_machine(pen, many); slots: pen 0, many 1, at 2, drawn 3, letters 4, n 5, way 6, states 7, turn 8, ends 9, k 10, letter 11, row 12 -/
def N__law_any_machine : List Str := ["pen", "many", "at", "drawn", "letters", "n", "way", "states", "turn", "ends", "k", "letter", "row"]
def m__law_any_machine : MS := dSeq (dAsg (dCall 2 sp__law_take (dCons (dVar 0) (dCons (dC (.int 24)) (dNil)))) (dName 2)) (dSeq (dAsg (dSl (dC (.str [97, 98, 99, 100, 101, 102, 103, 104, 105, 106, 107, 108, 109, 110, 111, 112, 113, 114, 115, 116, 117, 118, 119, 120, 121, 122])) (dPart (dVar 2)) (dPart (dOp dAdd (dOp dAdd (dVar 2) (dC (.int 1))) (dCall 2 sp__law_take (dCons (dVar 0) (dCons (dC (.int 3)) (dNil))))))) (dName 3)) (dSeq (dAsg (dCall 2 sp__law_one_of (dCons (dVar 0) (dCons (dLst (dCons (dC (.str [97])) (dCons (dC (.str [97, 98])) (dCons (dC (.str [97, 98])) (dCons (dC (.str [98, 122])) (dCons (dC (.str [97, 98, 99])) (dCons (dVar 3) (dNil)))))))) (dNil)))) (dName 4)) (dSeq (dAsg (dTup (dCons (dOp dAdd (dC (.int 1)) (dCall 2 sp__law_take (dCons (dVar 0) (dCons (dVar 1) (dNil))))) (dCons (dCall 2 sp__law_take (dCons (dVar 0) (dCons (dC (.int 3)) (dNil)))) (dNil)))) (dgTup 2 (dgCons (dName 5) (dgCons (dName 6) (dgNil))))) (dSeq (dIfS (dTest (dOp dEq (dVar 6) (dC (.int 0)))) (dSeq (dAsg (dLc (dIRng1 (dCons (dVar 5) (dNil))) (.nm 10) (dYes) (dLc (dISeq (dVar 4)) (.nm 11) (dYes) (dIf (dTest (dOp dEq (dVar 11) (dOp dIx (dVar 4) (dNeg (dC (.int 1)))))) (dOp dMod (dOp dAdd (dCB bInt (dCons (dVar 10) (dNil))) (dC (.int 1))) (dVar 5)) (dC .non)) [11]) [10]) (dName 7)) (dSeq (dFor (dIRng1 (dCons (dCall 2 sp__law_take (dCons (dVar 0) (dCons (dC (.int 3)) (dNil)))) (dNil))) (dName 8) (dSetI (dOp dIx (dVar 7) (dCall 2 sp__law_take (dCons (dVar 0) (dCons (dVar 5) (dNil))))) (dCall 2 sp__law_take (dCons (dVar 0) (dCons (dCB bLen (dCons (dVar 4) (dNil))) (dNil)))) (dCall 2 sp__law_take (dCons (dVar 0) (dCons (dVar 5) (dNil)))) dSetL)) (dAsg (dLst (dCons (dC (.int 0)) (dNil))) (dName 9)))) (dSeq (dAsg (dLst (dNil)) (dName 7)) (dSeq (dFor (dIRng1 (dCons (dVar 5) (dNil))) (dName 10) (dDrop (dMt "list" mAppend (dVar 7) (dCons (dLc (dISeq (dVar 4)) (.nm 11) (dYes) (dCall 2 sp__law_one_of (dCons (dVar 0) (dCons (dOp dAdd (dOp dMul (dLst (dCons (dC .non) (dNil))) (dVar 6)) (dListRng (dCons (dVar 5) (dNil)))) (dNil)))) [11]) (dNil))))) (dAsg (dLc (dIRng1 (dCons (dVar 5) (dNil))) (.nm 10) (dTest (dOp dEq (dCall 2 sp__law_take (dCons (dVar 0) (dCons (dC (.int 2)) (dNil)))) (dC (.int 0)))) (dVar 10) [10]) (dName 9))))) (dRet (dTup (dCons (dVar 4) (dCons (dCB bTup (dCons (dLc (dISeq (dVar 7)) (.nm 12) (dYes) (dCB bTup (dCons (dVar 12) (dNil))) [12]) (dNil))) (dCons (dCB bTup (dCons (dVar 9) (dNil))) (dNil))))))))))
theorem st__law_any_machine (a0 a1 : D) : startD N__law_any_machine [a0, a1] = [some a0, some a1, none, none, none, none, none, none, none, none, none, none, none] := rfl
def t__law_any_machine_1 : MS := dSeq (dAsg (dSl (dC (.str [97, 98, 99, 100, 101, 102, 103, 104, 105, 106, 107, 108, 109, 110, 111, 112, 113, 114, 115, 116, 117, 118, 119, 120, 121, 122])) (dPart (dVar 2)) (dPart (dOp dAdd (dOp dAdd (dVar 2) (dC (.int 1))) (dCall 2 sp__law_take (dCons (dVar 0) (dCons (dC (.int 3)) (dNil))))))) (dName 3)) (dSeq (dAsg (dCall 2 sp__law_one_of (dCons (dVar 0) (dCons (dLst (dCons (dC (.str [97])) (dCons (dC (.str [97, 98])) (dCons (dC (.str [97, 98])) (dCons (dC (.str [98, 122])) (dCons (dC (.str [97, 98, 99])) (dCons (dVar 3) (dNil)))))))) (dNil)))) (dName 4)) (dSeq (dAsg (dTup (dCons (dOp dAdd (dC (.int 1)) (dCall 2 sp__law_take (dCons (dVar 0) (dCons (dVar 1) (dNil))))) (dCons (dCall 2 sp__law_take (dCons (dVar 0) (dCons (dC (.int 3)) (dNil)))) (dNil)))) (dgTup 2 (dgCons (dName 5) (dgCons (dName 6) (dgNil))))) (dSeq (dIfS (dTest (dOp dEq (dVar 6) (dC (.int 0)))) (dSeq (dAsg (dLc (dIRng1 (dCons (dVar 5) (dNil))) (.nm 10) (dYes) (dLc (dISeq (dVar 4)) (.nm 11) (dYes) (dIf (dTest (dOp dEq (dVar 11) (dOp dIx (dVar 4) (dNeg (dC (.int 1)))))) (dOp dMod (dOp dAdd (dCB bInt (dCons (dVar 10) (dNil))) (dC (.int 1))) (dVar 5)) (dC .non)) [11]) [10]) (dName 7)) (dSeq (dFor (dIRng1 (dCons (dCall 2 sp__law_take (dCons (dVar 0) (dCons (dC (.int 3)) (dNil)))) (dNil))) (dName 8) (dSetI (dOp dIx (dVar 7) (dCall 2 sp__law_take (dCons (dVar 0) (dCons (dVar 5) (dNil))))) (dCall 2 sp__law_take (dCons (dVar 0) (dCons (dCB bLen (dCons (dVar 4) (dNil))) (dNil)))) (dCall 2 sp__law_take (dCons (dVar 0) (dCons (dVar 5) (dNil)))) dSetL)) (dAsg (dLst (dCons (dC (.int 0)) (dNil))) (dName 9)))) (dSeq (dAsg (dLst (dNil)) (dName 7)) (dSeq (dFor (dIRng1 (dCons (dVar 5) (dNil))) (dName 10) (dDrop (dMt "list" mAppend (dVar 7) (dCons (dLc (dISeq (dVar 4)) (.nm 11) (dYes) (dCall 2 sp__law_one_of (dCons (dVar 0) (dCons (dOp dAdd (dOp dMul (dLst (dCons (dC .non) (dNil))) (dVar 6)) (dListRng (dCons (dVar 5) (dNil)))) (dNil)))) [11]) (dNil))))) (dAsg (dLc (dIRng1 (dCons (dVar 5) (dNil))) (.nm 10) (dTest (dOp dEq (dCall 2 sp__law_take (dCons (dVar 0) (dCons (dC (.int 2)) (dNil)))) (dC (.int 0)))) (dVar 10) [10]) (dName 9))))) (dRet (dTup (dCons (dVar 4) (dCons (dCB bTup (dCons (dLc (dISeq (dVar 7)) (.nm 12) (dYes) (dCB bTup (dCons (dVar 12) (dNil))) [12]) (dNil))) (dCons (dCB bTup (dCons (dVar 9) (dNil))) (dNil)))))))))
def t__law_any_machine_2 : MS := dSeq (dAsg (dCall 2 sp__law_one_of (dCons (dVar 0) (dCons (dLst (dCons (dC (.str [97])) (dCons (dC (.str [97, 98])) (dCons (dC (.str [97, 98])) (dCons (dC (.str [98, 122])) (dCons (dC (.str [97, 98, 99])) (dCons (dVar 3) (dNil)))))))) (dNil)))) (dName 4)) (dSeq (dAsg (dTup (dCons (dOp dAdd (dC (.int 1)) (dCall 2 sp__law_take (dCons (dVar 0) (dCons (dVar 1) (dNil))))) (dCons (dCall 2 sp__law_take (dCons (dVar 0) (dCons (dC (.int 3)) (dNil)))) (dNil)))) (dgTup 2 (dgCons (dName 5) (dgCons (dName 6) (dgNil))))) (dSeq (dIfS (dTest (dOp dEq (dVar 6) (dC (.int 0)))) (dSeq (dAsg (dLc (dIRng1 (dCons (dVar 5) (dNil))) (.nm 10) (dYes) (dLc (dISeq (dVar 4)) (.nm 11) (dYes) (dIf (dTest (dOp dEq (dVar 11) (dOp dIx (dVar 4) (dNeg (dC (.int 1)))))) (dOp dMod (dOp dAdd (dCB bInt (dCons (dVar 10) (dNil))) (dC (.int 1))) (dVar 5)) (dC .non)) [11]) [10]) (dName 7)) (dSeq (dFor (dIRng1 (dCons (dCall 2 sp__law_take (dCons (dVar 0) (dCons (dC (.int 3)) (dNil)))) (dNil))) (dName 8) (dSetI (dOp dIx (dVar 7) (dCall 2 sp__law_take (dCons (dVar 0) (dCons (dVar 5) (dNil))))) (dCall 2 sp__law_take (dCons (dVar 0) (dCons (dCB bLen (dCons (dVar 4) (dNil))) (dNil)))) (dCall 2 sp__law_take (dCons (dVar 0) (dCons (dVar 5) (dNil)))) dSetL)) (dAsg (dLst (dCons (dC (.int 0)) (dNil))) (dName 9)))) (dSeq (dAsg (dLst (dNil)) (dName 7)) (dSeq (dFor (dIRng1 (dCons (dVar 5) (dNil))) (dName 10) (dDrop (dMt "list" mAppend (dVar 7) (dCons (dLc (dISeq (dVar 4)) (.nm 11) (dYes) (dCall 2 sp__law_one_of (dCons (dVar 0) (dCons (dOp dAdd (dOp dMul (dLst (dCons (dC .non) (dNil))) (dVar 6)) (dListRng (dCons (dVar 5) (dNil)))) (dNil)))) [11]) (dNil))))) (dAsg (dLc (dIRng1 (dCons (dVar 5) (dNil))) (.nm 10) (dTest (dOp dEq (dCall 2 sp__law_take (dCons (dVar 0) (dCons (dC (.int 2)) (dNil)))) (dC (.int 0)))) (dVar 10) [10]) (dName 9))))) (dRet (dTup (dCons (dVar 4) (dCons (dCB bTup (dCons (dLc (dISeq (dVar 7)) (.nm 12) (dYes) (dCB bTup (dCons (dVar 12) (dNil))) [12]) (dNil))) (dCons (dCB bTup (dCons (dVar 9) (dNil))) (dNil))))))))
def t__law_any_machine_3 : MS := dSeq (dAsg (dTup (dCons (dOp dAdd (dC (.int 1)) (dCall 2 sp__law_take (dCons (dVar 0) (dCons (dVar 1) (dNil))))) (dCons (dCall 2 sp__law_take (dCons (dVar 0) (dCons (dC (.int 3)) (dNil)))) (dNil)))) (dgTup 2 (dgCons (dName 5) (dgCons (dName 6) (dgNil))))) (dSeq (dIfS (dTest (dOp dEq (dVar 6) (dC (.int 0)))) (dSeq (dAsg (dLc (dIRng1 (dCons (dVar 5) (dNil))) (.nm 10) (dYes) (dLc (dISeq (dVar 4)) (.nm 11) (dYes) (dIf (dTest (dOp dEq (dVar 11) (dOp dIx (dVar 4) (dNeg (dC (.int 1)))))) (dOp dMod (dOp dAdd (dCB bInt (dCons (dVar 10) (dNil))) (dC (.int 1))) (dVar 5)) (dC .non)) [11]) [10]) (dName 7)) (dSeq (dFor (dIRng1 (dCons (dCall 2 sp__law_take (dCons (dVar 0) (dCons (dC (.int 3)) (dNil)))) (dNil))) (dName 8) (dSetI (dOp dIx (dVar 7) (dCall 2 sp__law_take (dCons (dVar 0) (dCons (dVar 5) (dNil))))) (dCall 2 sp__law_take (dCons (dVar 0) (dCons (dCB bLen (dCons (dVar 4) (dNil))) (dNil)))) (dCall 2 sp__law_take (dCons (dVar 0) (dCons (dVar 5) (dNil)))) dSetL)) (dAsg (dLst (dCons (dC (.int 0)) (dNil))) (dName 9)))) (dSeq (dAsg (dLst (dNil)) (dName 7)) (dSeq (dFor (dIRng1 (dCons (dVar 5) (dNil))) (dName 10) (dDrop (dMt "list" mAppend (dVar 7) (dCons (dLc (dISeq (dVar 4)) (.nm 11) (dYes) (dCall 2 sp__law_one_of (dCons (dVar 0) (dCons (dOp dAdd (dOp dMul (dLst (dCons (dC .non) (dNil))) (dVar 6)) (dListRng (dCons (dVar 5) (dNil)))) (dNil)))) [11]) (dNil))))) (dAsg (dLc (dIRng1 (dCons (dVar 5) (dNil))) (.nm 10) (dTest (dOp dEq (dCall 2 sp__law_take (dCons (dVar 0) (dCons (dC (.int 2)) (dNil)))) (dC (.int 0)))) (dVar 10) [10]) (dName 9))))) (dRet (dTup (dCons (dVar 4) (dCons (dCB bTup (dCons (dLc (dISeq (dVar 7)) (.nm 12) (dYes) (dCB bTup (dCons (dVar 12) (dNil))) [12]) (dNil))) (dCons (dCB bTup (dCons (dVar 9) (dNil))) (dNil)))))))
def t__law_any_machine_4 : MS := dSeq (dIfS (dTest (dOp dEq (dVar 6) (dC (.int 0)))) (dSeq (dAsg (dLc (dIRng1 (dCons (dVar 5) (dNil))) (.nm 10) (dYes) (dLc (dISeq (dVar 4)) (.nm 11) (dYes) (dIf (dTest (dOp dEq (dVar 11) (dOp dIx (dVar 4) (dNeg (dC (.int 1)))))) (dOp dMod (dOp dAdd (dCB bInt (dCons (dVar 10) (dNil))) (dC (.int 1))) (dVar 5)) (dC .non)) [11]) [10]) (dName 7)) (dSeq (dFor (dIRng1 (dCons (dCall 2 sp__law_take (dCons (dVar 0) (dCons (dC (.int 3)) (dNil)))) (dNil))) (dName 8) (dSetI (dOp dIx (dVar 7) (dCall 2 sp__law_take (dCons (dVar 0) (dCons (dVar 5) (dNil))))) (dCall 2 sp__law_take (dCons (dVar 0) (dCons (dCB bLen (dCons (dVar 4) (dNil))) (dNil)))) (dCall 2 sp__law_take (dCons (dVar 0) (dCons (dVar 5) (dNil)))) dSetL)) (dAsg (dLst (dCons (dC (.int 0)) (dNil))) (dName 9)))) (dSeq (dAsg (dLst (dNil)) (dName 7)) (dSeq (dFor (dIRng1 (dCons (dVar 5) (dNil))) (dName 10) (dDrop (dMt "list" mAppend (dVar 7) (dCons (dLc (dISeq (dVar 4)) (.nm 11) (dYes) (dCall 2 sp__law_one_of (dCons (dVar 0) (dCons (dOp dAdd (dOp dMul (dLst (dCons (dC .non) (dNil))) (dVar 6)) (dListRng (dCons (dVar 5) (dNil)))) (dNil)))) [11]) (dNil))))) (dAsg (dLc (dIRng1 (dCons (dVar 5) (dNil))) (.nm 10) (dTest (dOp dEq (dCall 2 sp__law_take (dCons (dVar 0) (dCons (dC (.int 2)) (dNil)))) (dC (.int 0)))) (dVar 10) [10]) (dName 9))))) (dRet (dTup (dCons (dVar 4) (dCons (dCB bTup (dCons (dLc (dISeq (dVar 7)) (.nm 12) (dYes) (dCB bTup (dCons (dVar 12) (dNil))) [12]) (dNil))) (dCons (dCB bTup (dCons (dVar 9) (dNil))) (dNil))))))
def t__law_any_machine_5 : MS := dRet (dTup (dCons (dVar 4) (dCons (dCB bTup (dCons (dLc (dISeq (dVar 7)) (.nm 12) (dYes) (dCB bTup (dCons (dVar 12) (dNil))) [12]) (dNil))) (dCons (dCB bTup (dCons (dVar 9) (dNil))) (dNil)))))
/-- the end: rows, ends told -/
theorem end_any {Q : DK} {h g : DHp} {p ps pe : Addr} {m : Int} {as : List Addr} {rows : List (List (Option Nat))} {L : Tx} {E : List Nat} (DD : DEnds) (hrt : DD.rt = Fgt Q) (M : Mv h p m g) (hm : m ≤ 100) (R : Rows h g as rows)
    (es : g ps = some (.lst (as.map D.ref))) (ee : g pe = some (.lst (natsD E))) (ok : Mch.ok ⟨L, rows, E⟩) (q : ∀ M g, M.ok → Moved h p 100 g → Q (mchD M) g) (s1 s2 s3 s5 s6 s8 s10 s11 s12 : Option D) :
    t__law_any_machine_5 DD [some (.ref p), s1, s2, s3, some (.str L), s5, s6, some (.ref ps), s8, some (.ref pe), s10, s11, s12] g := by
  have hs := sizeLine_eq
  have hr6 := ok.r6
  simp only [t__law_any_machine_5, forall_const, true_implies, false_implies, implies_true, and_true, true_and, reduceCtorEq, Bool.not_true, Bool.not_false, Bool.true_xor, Bool.false_xor, Option.some.injEq, exists_eq_left', put_same, onB_bl, dSeq, dNext, dBreak, dDrop, dRet, dRetN, dIfS, dName, dgNil, dgCons, dgTup, dAsg, dPar, dPar3, dSetI, dgSub, dRaise, dVar, dC, dOp, dTest, dAnd, dOr, dNot, dAndV, dOrV, dNotV, dIf, dNil, dCons, dTup, dLst, dCall, dCB, dMt, dMt0, dInC, dIxC, dChain, dNeg, dNoPart, dPart, dSl, exE, dIsA, dCat, catchD, subE, Ex.ix, endsD, dLc, dISeq, dIRng1, dIRng2, dIEnum, dFor, dDcT, dDcK, dCallV, mStarts_str, mIndex_str, mUpper_str, dSortSet, dListZip, dListRng, dDnew, dLc2, List.getElem?_cons_zero, List.getElem?_cons_succ, List.set_cons_zero, List.set_cons_succ, onL_lst, isA_non, isA_int_int, isA_bool_int, isA_str_int, isA_tup_int, isA_lst_int, isA_int_str, isA_bool_str, isA_str_str, isA_tup_str, isA_lst_str, isA_int_tup, isA_bool_tup, isA_str_tup, isA_tup_tup, isA_lst_tup, isA_int_bl, isA_bool_bl, isA_str_bl, isA_tup_bl, isA_lst_bl, dAdd_int, dAdd_str, dAdd_tup, dAdd_ref, dSub_int, dLt_int, dLe_int, dGt_int, dGe_int, dMul_int, dMul_str, dMul_ref, dMod_int, dFdiv_int, dPow_int, dIsN_, dNotN_, isNon_int, isNon_non, dEq_str, dEq_int, dNe_str, dNe_int, dIn_sign, dIx_str, dIx_tup, dIx_scr, dIx_ref, dCut_str, dCut_tup, dCut_scr, dCut_ref, bLen_str, bLen_tup, bLen_ref, bInt_int, bInt_bl, bTup_tup, bTup_ref, bList_str, bList_tup, bList_ref, tyD_str, mAppend_ref, mExtend_ref, tyL, dSetL_ref, mJoin_ref, bMin_ref, bMax_ref, atI_0, atI_1, atI_2, hrt, es]
  have la : as.length ≤ 6 := by rw [R.1]; exact hr6
  refine lcB_map (fun d => match d with | .ref a => (match g a with | some (.lst xs) => .tup xs | _ => .non) | _ => .non) es (by rw [List.length_map]; omega) (fun d hd => ?_) fun u nu => ?_
  · obtain ⟨a, ha, rfl⟩ := List.mem_map.mp hd
    obtain ⟨_, r, h3, _⟩ := rows_at R ha
    refine ⟨_, rfl, fun K k => ?_⟩
    simp only [forall_const, true_implies, false_implies, implies_true, and_true, true_and, reduceCtorEq, Bool.not_true, Bool.not_false, Bool.true_xor, Bool.false_xor, Option.some.injEq, exists_eq_left', put_same, onB_bl, dSeq, dNext, dBreak, dDrop, dRet, dRetN, dIfS, dName, dgNil, dgCons, dgTup, dAsg, dPar, dPar3, dSetI, dgSub, dRaise, dVar, dC, dOp, dTest, dAnd, dOr, dNot, dAndV, dOrV, dNotV, dIf, dNil, dCons, dTup, dLst, dCall, dCB, dMt, dMt0, dInC, dIxC, dChain, dNeg, dNoPart, dPart, dSl, exE, dIsA, dCat, catchD, subE, Ex.ix, endsD, dLc, dISeq, dIRng1, dIRng2, dIEnum, dFor, dDcT, dDcK, dCallV, mStarts_str, mIndex_str, mUpper_str, dSortSet, dListZip, dListRng, dDnew, dLc2, List.getElem?_cons_zero, List.getElem?_cons_succ, List.set_cons_zero, List.set_cons_succ, onL_lst, isA_non, isA_int_int, isA_bool_int, isA_str_int, isA_tup_int, isA_lst_int, isA_int_str, isA_bool_str, isA_str_str, isA_tup_str, isA_lst_str, isA_int_tup, isA_bool_tup, isA_str_tup, isA_tup_tup, isA_lst_tup, isA_int_bl, isA_bool_bl, isA_str_bl, isA_tup_bl, isA_lst_bl, dAdd_int, dAdd_str, dAdd_tup, dAdd_ref, dSub_int, dLt_int, dLe_int, dGt_int, dGe_int, dMul_int, dMul_str, dMul_ref, dMod_int, dFdiv_int, dPow_int, dIsN_, dNotN_, isNon_int, isNon_non, dEq_str, dEq_int, dNe_str, dNe_int, dIn_sign, dIx_str, dIx_tup, dIx_scr, dIx_ref, dCut_str, dCut_tup, dCut_scr, dCut_ref, bLen_str, bLen_tup, bLen_ref, bInt_int, bInt_bl, bTup_tup, bTup_ref, bList_str, bList_tup, bList_ref, tyD_str, mAppend_ref, mExtend_ref, tyL, dSetL_ref, mJoin_ref, bMin_ref, bMax_ref, atI_0, atI_1, atI_2, dwipe, h3]
    simpa [h3] using k
  · have er : (as.map D.ref).map (fun d => (match d with | .ref a => (match g a with | some (.lst xs) => D.tup xs | _ => .non) | _ => .non)) = rows.map rowD := by
      rw [List.map_map]
      refine List.ext_getElem? fun i => ?_
      rw [List.getElem?_map, List.getElem?_map]
      cases ea : as[i]? with
      | none =>
        have : rows[i]? = none := by
          rw [List.getElem?_eq_none_iff] at ea ⊢
          rw [← R.1]; exact ea
        rw [this]
        rfl
      | some a =>
        obtain ⟨_, r, h2, h3⟩ := R.2.2 i a ea
        rw [h2]
        simp [h3, rowD]
    rw [er]
    simp only [bTup_ref, put_same, onL_lst, put_old (o := .lst (rows.map rowD)) ee nu]
    exact ⟨by show (3 : Nat) ≤ sizeLine; omega, mv_end (mv_le (mv_new M nu) hm) fun g' M' => q ⟨L, rows, E⟩ g' ok M'⟩
theorem cut_sg {α : Type} (x : List α) (i m : Nat) : cutD x (some (i : Int)) (some ((i : Int) + m)) = (x.drop i).take m := by
  unfold cutD
  rw [← Int.natCast_add, HT.sIx_nat, HT.sIx_nat]
  by_cases h : i ≤ x.length
  · rw [Nat.min_eq_left h]
    by_cases h2 : i + m ≤ x.length
    · rw [Nat.min_eq_left h2, Nat.add_sub_cancel_left]
    · rw [Nat.min_eq_right (by omega), List.take_of_length_le (by rw [List.length_drop]; omega), List.take_of_length_le (by rw [List.length_drop]; omega)]
  · rw [Nat.min_eq_right (by omega), List.drop_eq_nil_of_le (by omega), List.drop_eq_nil_of_le (by omega), List.take_nil, List.take_nil]
theorem take_mm {h g : DHp} {p : Addr} {m N many : Int} {K : DK} {E : DX} (P : Pen h p N) (M : Mv h p m g) (hN : N + m ≤ 999999) (h0 : 0 < many) (h1 : many < 1073741824) (q : ∀ n g', 0 ≤ n → n < many → Mv h p (m + 1) g' → Moved g p 1 g' → K (.int n) g') : [D.ref p, .int many].length = 2 ∧ sp__law_take [.ref p, .int many] g K E :=
  ⟨rfl, pen_le (mv_pen P M) hN, h0, h1, fun n g' a b c => q n g' a b (mv_moved M c) c⟩
theorem pen_there {h : DHp} {p : Addr} {N : Int} (P : Pen h p N) : h p ≠ none := by
  obtain ⟨c, k, v, ns, hp, _⟩ := P
  rw [hp]
  exact fun z => by cases z
theorem nth_ok {L : Tx} {rows : List (List (Option Nat))} {E : List Nat} {N : Nat} (hL : ∀ c ∈ L, c ∈ SMALL) (hP : L.Pairwise (· < ·)) (l1 : 1 ≤ L.length) (l3 : L.length ≤ 3) (hr : rows.length = N) (h1 : 1 ≤ N) (h6 : N ≤ 6) (G : goodRows L N rows)
    (hE : ∀ e ∈ E, e < N) (hA : E.Pairwise (· < ·)) : Mch.ok ⟨L, rows, E⟩ := by
  subst hr
  exact ⟨hL, hP, l1, l3, h1, h6, G, hE, hA⟩
theorem last_at {L : Tx} (l1 : 1 ≤ L.length) (l3 : L.length ≤ 3) : ∃ c, atI L (-1) = some c := by
  match L, l1, l3 with
  | [a], _, _ => exact ⟨a, rfl⟩
  | [a, b], _, _ => exact ⟨b, rfl⟩
  | [a, b, c], _, _ => exact ⟨c, rfl⟩
theorem ok__law_any_machine (ds : List D) (h : DHp) (Q : DK) (E : DX) (hn : ds.length = 2) (q : sp__law_any_machine ds h Q E) : m__law_any_machine (endsD Q E) (startD N__law_any_machine ds) h := by
  have hs := sizeLine_eq
  match ds, q with
  | [.ref p, .int many], ⟨P, m1, m6, q⟩ =>
    rw [st__law_any_machine]
    show dSeq _ (dSeq _ (dSeq _ (dSeq _ (dSeq _ t__law_any_machine_5)))) _ _ _
    generalize hT : t__law_any_machine_5 = T
    simp only [forall_const, true_implies, false_implies, implies_true, and_true, true_and, reduceCtorEq, Bool.not_true, Bool.not_false, Bool.true_xor, Bool.false_xor, Option.some.injEq, exists_eq_left', put_same, onB_bl, dSeq, dNext, dBreak, dDrop, dRet, dRetN, dIfS, dName, dgNil, dgCons, dgTup, dAsg, dPar, dPar3, dSetI, dgSub, dRaise, dVar, dC, dOp, dTest, dAnd, dOr, dNot, dAndV, dOrV, dNotV, dIf, dNil, dCons, dTup, dLst, dCall, dCB, dMt, dMt0, dInC, dIxC, dChain, dNeg, dNoPart, dPart, dSl, exE, dIsA, dCat, catchD, subE, Ex.ix, endsD, dLc, dISeq, dIRng1, dIRng2, dIEnum, dFor, dDcT, dDcK, dCallV, mStarts_str, mIndex_str, mUpper_str, dSortSet, dListZip, dListRng, dDnew, dLc2, List.getElem?_cons_zero, List.getElem?_cons_succ, List.set_cons_zero, List.set_cons_succ, onL_lst, isA_non, isA_int_int, isA_bool_int, isA_str_int, isA_tup_int, isA_lst_int, isA_int_str, isA_bool_str, isA_str_str, isA_tup_str, isA_lst_str, isA_int_tup, isA_bool_tup, isA_str_tup, isA_tup_tup, isA_lst_tup, isA_int_bl, isA_bool_bl, isA_str_bl, isA_tup_bl, isA_lst_bl, dAdd_int, dAdd_str, dAdd_tup, dAdd_ref, dSub_int, dLt_int, dLe_int, dGt_int, dGe_int, dMul_int, dMul_str, dMul_ref, dMod_int, dFdiv_int, dPow_int, dIsN_, dNotN_, isNon_int, isNon_non, dEq_str, dEq_int, dNe_str, dNe_int, dIn_sign, dIx_str, dIx_tup, dIx_scr, dIx_ref, dCut_str, dCut_tup, dCut_scr, dCut_ref, bLen_str, bLen_tup, bLen_ref, bInt_int, bInt_bl, bTup_tup, bTup_ref, bList_str, bList_tup, bList_ref, tyD_str, mAppend_ref, mExtend_ref, tyL, dSetL_ref, mJoin_ref, bMin_ref, bMax_ref, atI_0, atI_1, atI_2]
    refine take_mv P (mv_refl P) (by omega) (by omega) (by omega) fun at' g a0 a1 M => ?_
    try simp only [forall_const, true_implies, false_implies, implies_true, and_true, true_and, reduceCtorEq, Bool.not_true, Bool.not_false, Bool.true_xor, Bool.false_xor, Option.some.injEq, exists_eq_left', put_same, onB_bl, dSeq, dNext, dBreak, dDrop, dRet, dRetN, dIfS, dName, dgNil, dgCons, dgTup, dAsg, dPar, dPar3, dSetI, dgSub, dRaise, dVar, dC, dOp, dTest, dAnd, dOr, dNot, dAndV, dOrV, dNotV, dIf, dNil, dCons, dTup, dLst, dCall, dCB, dMt, dMt0, dInC, dIxC, dChain, dNeg, dNoPart, dPart, dSl, exE, dIsA, dCat, catchD, subE, Ex.ix, endsD, dLc, dISeq, dIRng1, dIRng2, dIEnum, dFor, dDcT, dDcK, dCallV, mStarts_str, mIndex_str, mUpper_str, dSortSet, dListZip, dListRng, dDnew, dLc2, List.getElem?_cons_zero, List.getElem?_cons_succ, List.set_cons_zero, List.set_cons_succ, onL_lst, isA_non, isA_int_int, isA_bool_int, isA_str_int, isA_tup_int, isA_lst_int, isA_int_str, isA_bool_str, isA_str_str, isA_tup_str, isA_lst_str, isA_int_tup, isA_bool_tup, isA_str_tup, isA_tup_tup, isA_lst_tup, isA_int_bl, isA_bool_bl, isA_str_bl, isA_tup_bl, isA_lst_bl, dAdd_int, dAdd_str, dAdd_tup, dAdd_ref, dSub_int, dLt_int, dLe_int, dGt_int, dGe_int, dMul_int, dMul_str, dMul_ref, dMod_int, dFdiv_int, dPow_int, dIsN_, dNotN_, isNon_int, isNon_non, dEq_str, dEq_int, dNe_str, dNe_int, dIn_sign, dIx_str, dIx_tup, dIx_scr, dIx_ref, dCut_str, dCut_tup, dCut_scr, dCut_ref, bLen_str, bLen_tup, bLen_ref, bInt_int, bInt_bl, bTup_tup, bTup_ref, bList_str, bList_tup, bList_ref, tyD_str, mAppend_ref, mExtend_ref, tyL, dSetL_ref, mJoin_ref, bMin_ref, bMax_ref, atI_0, atI_1, atI_2]
    refine take_mv P M (by omega) (by omega) (by omega) fun b g b0 b1 M => ?_
    refine ⟨by show (26 : Nat) ≤ sizeLine; omega, by show (6 : Nat) ≤ sizeLine; omega, fun r nr => one_mv P M (by omega) (by simp) (by simp) (fun d hd g M => ?_) r nr⟩
    have hd' : ∃ L : Tx, d = .str L ∧ (∀ c ∈ L, c ∈ SMALL) ∧ L.Pairwise (· < ·) ∧ 1 ≤ L.length ∧ L.length ≤ 3 := by
      have hd2 := hd
      simp only [List.mem_cons, List.mem_nil_iff, or_false] at hd2
      rcases hd2 with z | z | z | z | z | z
      · exact ⟨[97], z, by decide, by decide, by decide, by decide⟩
      · exact ⟨[97, 98], z, by decide, by decide, by decide, by decide⟩
      · exact ⟨[97, 98], z, by decide, by decide, by decide, by decide⟩
      · exact ⟨[98, 122], z, by decide, by decide, by decide, by decide⟩
      · exact ⟨[97, 98, 99], z, by decide, by decide, by decide, by decide⟩
      · obtain ⟨a, rfl⟩ : ∃ a : Nat, at' = a := ⟨at'.toNat, by omega⟩
        obtain ⟨b, rfl⟩ : ∃ k : Nat, b = k := ⟨b.toNat, by omega⟩
        have e : (a : Int) + 1 + b = (a : Int) + ((1 + b : Nat) : Int) := by omega
        rw [e, cut_sg] at z
        refine ⟨_, z, fun c hc => List.mem_of_mem_drop (List.mem_of_mem_take hc), ?_, ?_, ?_⟩
        · have : SMALL.Pairwise (· < ·) := by decide
          exact this.sublist ((List.take_sublist _ _).trans (List.drop_sublist _ _))
        · rw [List.length_take, List.length_drop]; show 1 ≤ min (1 + b) (26 - a); omega
        · rw [List.length_take, List.length_drop]; show min (1 + b) (26 - a) ≤ 3; omega
    obtain ⟨L, rfl, hL, hP, l1, l3⟩ := hd'
    try simp only [forall_const, true_implies, false_implies, implies_true, and_true, true_and, reduceCtorEq, Bool.not_true, Bool.not_false, Bool.true_xor, Bool.false_xor, Option.some.injEq, exists_eq_left', put_same, onB_bl, dSeq, dNext, dBreak, dDrop, dRet, dRetN, dIfS, dName, dgNil, dgCons, dgTup, dAsg, dPar, dPar3, dSetI, dgSub, dRaise, dVar, dC, dOp, dTest, dAnd, dOr, dNot, dAndV, dOrV, dNotV, dIf, dNil, dCons, dTup, dLst, dCall, dCB, dMt, dMt0, dInC, dIxC, dChain, dNeg, dNoPart, dPart, dSl, exE, dIsA, dCat, catchD, subE, Ex.ix, endsD, dLc, dISeq, dIRng1, dIRng2, dIEnum, dFor, dDcT, dDcK, dCallV, mStarts_str, mIndex_str, mUpper_str, dSortSet, dListZip, dListRng, dDnew, dLc2, List.getElem?_cons_zero, List.getElem?_cons_succ, List.set_cons_zero, List.set_cons_succ, onL_lst, isA_non, isA_int_int, isA_bool_int, isA_str_int, isA_tup_int, isA_lst_int, isA_int_str, isA_bool_str, isA_str_str, isA_tup_str, isA_lst_str, isA_int_tup, isA_bool_tup, isA_str_tup, isA_tup_tup, isA_lst_tup, isA_int_bl, isA_bool_bl, isA_str_bl, isA_tup_bl, isA_lst_bl, dAdd_int, dAdd_str, dAdd_tup, dAdd_ref, dSub_int, dLt_int, dLe_int, dGt_int, dGe_int, dMul_int, dMul_str, dMul_ref, dMod_int, dFdiv_int, dPow_int, dIsN_, dNotN_, isNon_int, isNon_non, dEq_str, dEq_int, dNe_str, dNe_int, dIn_sign, dIx_str, dIx_tup, dIx_scr, dIx_ref, dCut_str, dCut_tup, dCut_scr, dCut_ref, bLen_str, bLen_tup, bLen_ref, bInt_int, bInt_bl, bTup_tup, bTup_ref, bList_str, bList_tup, bList_ref, tyD_str, mAppend_ref, mExtend_ref, tyL, dSetL_ref, mJoin_ref, bMin_ref, bMax_ref, atI_0, atI_1, atI_2]
    refine take_mv P M (by omega) (by omega) (by omega) fun n' g n0 n1 M => ?_
    refine take_mv P M (by omega) (by omega) (by omega) fun way g w0 w1 M => ?_
    obtain ⟨n, rfl⟩ : ∃ n : Nat, n' = n := ⟨n'.toNat, by omega⟩
    clear hd
    generalize (cutD ([97, 98, 99, 100, 101, 102, 103, 104, 105, 106, 107, 108, 109, 110, 111, 112, 113, 114, 115, 116, 117, 118, 119, 120, 121, 122] : List Nat) (some at') (some (at' + 1 + b))) = dr
    have M : Mv h p 5 g := mv_le M (by omega)
    have hpn := pen_there P
    have eN : (1 + (n : Int)) = ((n + 1 : Nat) : Int) := by omega
    rw [eN]
    generalize eNN : n + 1 = N
    have N1 : 1 ≤ N := by omega
    have N6 : N ≤ 6 := by omega
    refine ⟨by show (2 : Nat) ≤ sizeLine; omega, rfl, ?_⟩
    simp only [dEq_int, onB_bl]
    refine ⟨fun hw => ?_, fun hw => ?_⟩
    · refine ⟨⟨by omega, by omega⟩, ?_⟩
      obtain ⟨c0, hc0⟩ := last_at l1 l3
      refine ⟨fun i acc h' => ∃ (as : List Addr) (rows : List (List (Option Nat))), acc = as.map D.ref ∧ as.length = i ∧ Rows h h' as rows ∧ goodRows L N rows ∧ Mv h p 5 h' ∧ i ≤ N, ⟨[], [], rfl, rfl, rows_nil, (fun r hr => by cases hr), M, Nat.zero_le _⟩, ?_⟩
      rintro i acc g ⟨as, rows, rfl, hi, R, G, M, hN⟩
      refine ⟨True.intro, fun e ps nps => ?_, fun d hd => ?_⟩
      · have e : i = N := by rw [e, rngD_len]; omega
        subst e
        have M1 := mv_new (o := .lst (as.map D.ref)) M nps
        have R1 := rows_new (o := .lst (as.map D.ref)) R nps
        have hps := mv_none M nps
        have e1 : put g ps (.lst (as.map D.ref)) ps = some (.lst (as.map D.ref)) := put_same
        generalize put g ps (.lst (as.map D.ref)) = g at M1 R1 e1
        refine take_mm P M1 (by omega) (by omega) (by omega) fun t g' t0 t1 M2 Mm => ?_
        have R2 := rows_moved R1 hpn Mm
        have e2 := moved_old Mm e1 fun z => by subst z; exact hpn hps
        obtain ⟨t, rfl⟩ : ∃ t' : Nat, t = t' := ⟨t.toNat, by omega⟩
        refine ⟨⟨by omega, by omega⟩, ?_⟩
        refine forB_inv (fun j δ h' => (∃ s8, δ = [some (.ref p), some (.int many), some (.int at'), some (.str dr), some (.str L), some (.int (i : Nat)), some (.int way), some (.ref ps), s8, none, none, none, none]) ∧ j ≤ t ∧ ∃ rows, Rows h h' as rows ∧ goodRows L i rows ∧ h' ps = some (.lst (as.map D.ref)) ∧ Mv h p (6 + 3 * j) h')
          ⟨⟨_, rfl⟩, Nat.zero_le _, rows, R2, G, e2, mv_le M2 (by omega)⟩ (fun _ _ _ _ => True.intro) ?_ ?_
        · rintro δ h' ⟨⟨s8, rfl⟩, _, rows, R, G, eps, M⟩
          rw [rngD_len] at M
          simp only [forall_const, true_implies, false_implies, implies_true, and_true, true_and, reduceCtorEq, Bool.not_true, Bool.not_false, Bool.true_xor, Bool.false_xor, Option.some.injEq, exists_eq_left', put_same, onB_bl, dSeq, dNext, dBreak, dDrop, dRet, dRetN, dIfS, dName, dgNil, dgCons, dgTup, dAsg, dPar, dPar3, dSetI, dgSub, dRaise, dVar, dC, dOp, dTest, dAnd, dOr, dNot, dAndV, dOrV, dNotV, dIf, dNil, dCons, dTup, dLst, dCall, dCB, dMt, dMt0, dInC, dIxC, dChain, dNeg, dNoPart, dPart, dSl, exE, dIsA, dCat, catchD, subE, Ex.ix, endsD, dLc, dISeq, dIRng1, dIRng2, dIEnum, dFor, dDcT, dDcK, dCallV, mStarts_str, mIndex_str, mUpper_str, dSortSet, dListZip, dListRng, dDnew, dLc2, List.getElem?_cons_zero, List.getElem?_cons_succ, List.set_cons_zero, List.set_cons_succ, onL_lst, isA_non, isA_int_int, isA_bool_int, isA_str_int, isA_tup_int, isA_lst_int, isA_int_str, isA_bool_str, isA_str_str, isA_tup_str, isA_lst_str, isA_int_tup, isA_bool_tup, isA_str_tup, isA_tup_tup, isA_lst_tup, isA_int_bl, isA_bool_bl, isA_str_bl, isA_tup_bl, isA_lst_bl, dAdd_int, dAdd_str, dAdd_tup, dAdd_ref, dSub_int, dLt_int, dLe_int, dGt_int, dGe_int, dMul_int, dMul_str, dMul_ref, dMod_int, dFdiv_int, dPow_int, dIsN_, dNotN_, isNon_int, isNon_non, dEq_str, dEq_int, dNe_str, dNe_int, dIn_sign, dIx_str, dIx_tup, dIx_scr, dIx_ref, dCut_str, dCut_tup, dCut_scr, dCut_ref, bLen_str, bLen_tup, bLen_ref, bInt_int, bInt_bl, bTup_tup, bTup_ref, bList_str, bList_tup, bList_ref, tyD_str, mAppend_ref, mExtend_ref, tyL, dSetL_ref, mJoin_ref, bMin_ref, bMax_ref, atI_0, atI_1, atI_2]
          refine ⟨by show (1 : Nat) ≤ sizeLine; omega, fun pe npe => ?_⟩
          subst hT
          exact end_any (m := 20) (E := [0]) _ rfl (mv_le (mv_new M npe) (by omega)) (by omega) (rows_new R npe) (put_old eps npe) put_same
            (nth_ok hL hP l1 l3 (R.1.symm.trans hi) N1 N6 G (fun e he => by simp at he; omega) (by simp)) q _ _ _ _ _ _ _ _ _
        · rintro j d δ h' hd ⟨⟨s8, rfl⟩, hj, rows, R, G, eps, M⟩
          obtain ⟨hjn, rfl⟩ := rngD_get hd
          rw [Int.toNat_natCast] at hjn
          simp only [forall_const, true_implies, false_implies, implies_true, and_true, true_and, reduceCtorEq, Bool.not_true, Bool.not_false, Bool.true_xor, Bool.false_xor, Option.some.injEq, exists_eq_left', put_same, onB_bl, dSeq, dNext, dBreak, dDrop, dRet, dRetN, dIfS, dName, dgNil, dgCons, dgTup, dAsg, dPar, dPar3, dSetI, dgSub, dRaise, dVar, dC, dOp, dTest, dAnd, dOr, dNot, dAndV, dOrV, dNotV, dIf, dNil, dCons, dTup, dLst, dCall, dCB, dMt, dMt0, dInC, dIxC, dChain, dNeg, dNoPart, dPart, dSl, exE, dIsA, dCat, catchD, subE, Ex.ix, endsD, dLc, dISeq, dIRng1, dIRng2, dIEnum, dFor, dDcT, dDcK, dCallV, mStarts_str, mIndex_str, mUpper_str, dSortSet, dListZip, dListRng, dDnew, dLc2, List.getElem?_cons_zero, List.getElem?_cons_succ, List.set_cons_zero, List.set_cons_succ, onL_lst, isA_non, isA_int_int, isA_bool_int, isA_str_int, isA_tup_int, isA_lst_int, isA_int_str, isA_bool_str, isA_str_str, isA_tup_str, isA_lst_str, isA_int_tup, isA_bool_tup, isA_str_tup, isA_tup_tup, isA_lst_tup, isA_int_bl, isA_bool_bl, isA_str_bl, isA_tup_bl, isA_lst_bl, dAdd_int, dAdd_str, dAdd_tup, dAdd_ref, dSub_int, dLt_int, dLe_int, dGt_int, dGe_int, dMul_int, dMul_str, dMul_ref, dMod_int, dFdiv_int, dPow_int, dIsN_, dNotN_, isNon_int, isNon_non, dEq_str, dEq_int, dNe_str, dNe_int, dIn_sign, dIx_str, dIx_tup, dIx_scr, dIx_ref, dCut_str, dCut_tup, dCut_scr, dCut_ref, bLen_str, bLen_tup, bLen_ref, bInt_int, bInt_bl, bTup_tup, bTup_ref, bList_str, bList_tup, bList_ref, tyD_str, mAppend_ref, mExtend_ref, tyL, dSetL_ref, mJoin_ref, bMin_ref, bMax_ref, atI_0, atI_1, atI_2]
          refine take_mm P M (by omega) (by omega) (by omega) fun v g1 v0 v1 M1 Mm1 => ?_
          have R1 := rows_moved R hpn Mm1
          have e1 := moved_old Mm1 eps fun z => by subst z; exact hpn hps
          try simp only [forall_const, true_implies, false_implies, implies_true, and_true, true_and, reduceCtorEq, Bool.not_true, Bool.not_false, Bool.true_xor, Bool.false_xor, Option.some.injEq, exists_eq_left', put_same, onB_bl, dSeq, dNext, dBreak, dDrop, dRet, dRetN, dIfS, dName, dgNil, dgCons, dgTup, dAsg, dPar, dPar3, dSetI, dgSub, dRaise, dVar, dC, dOp, dTest, dAnd, dOr, dNot, dAndV, dOrV, dNotV, dIf, dNil, dCons, dTup, dLst, dCall, dCB, dMt, dMt0, dInC, dIxC, dChain, dNeg, dNoPart, dPart, dSl, exE, dIsA, dCat, catchD, subE, Ex.ix, endsD, dLc, dISeq, dIRng1, dIRng2, dIEnum, dFor, dDcT, dDcK, dCallV, mStarts_str, mIndex_str, mUpper_str, dSortSet, dListZip, dListRng, dDnew, dLc2, List.getElem?_cons_zero, List.getElem?_cons_succ, List.set_cons_zero, List.set_cons_succ, onL_lst, isA_non, isA_int_int, isA_bool_int, isA_str_int, isA_tup_int, isA_lst_int, isA_int_str, isA_bool_str, isA_str_str, isA_tup_str, isA_lst_str, isA_int_tup, isA_bool_tup, isA_str_tup, isA_tup_tup, isA_lst_tup, isA_int_bl, isA_bool_bl, isA_str_bl, isA_tup_bl, isA_lst_bl, dAdd_int, dAdd_str, dAdd_tup, dAdd_ref, dSub_int, dLt_int, dLe_int, dGt_int, dGe_int, dMul_int, dMul_str, dMul_ref, dMod_int, dFdiv_int, dPow_int, dIsN_, dNotN_, isNon_int, isNon_non, dEq_str, dEq_int, dNe_str, dNe_int, dIn_sign, dIx_str, dIx_tup, dIx_scr, dIx_ref, dCut_str, dCut_tup, dCut_scr, dCut_ref, bLen_str, bLen_tup, bLen_ref, bInt_int, bInt_bl, bTup_tup, bTup_ref, bList_str, bList_tup, bList_ref, tyD_str, mAppend_ref, mExtend_ref, tyL, dSetL_ref, mJoin_ref, bMin_ref, bMax_ref, atI_0, atI_1, atI_2]
          refine take_mm P M1 (by omega) (by omega) (by omega) fun x g2 x0 x1 M2 Mm2 => ?_
          have R2 := rows_moved R1 hpn Mm2
          have e2 := moved_old Mm2 e1 fun z => by subst z; exact hpn hps
          obtain ⟨x, rfl⟩ : ∃ t' : Nat, x = t' := ⟨x.toNat, by omega⟩
          have hx : x < as.length := by omega
          simp only [forall_const, true_implies, false_implies, implies_true, and_true, true_and, reduceCtorEq, Bool.not_true, Bool.not_false, Bool.true_xor, Bool.false_xor, Option.some.injEq, exists_eq_left', put_same, onB_bl, dSeq, dNext, dBreak, dDrop, dRet, dRetN, dIfS, dName, dgNil, dgCons, dgTup, dAsg, dPar, dPar3, dSetI, dgSub, dRaise, dVar, dC, dOp, dTest, dAnd, dOr, dNot, dAndV, dOrV, dNotV, dIf, dNil, dCons, dTup, dLst, dCall, dCB, dMt, dMt0, dInC, dIxC, dChain, dNeg, dNoPart, dPart, dSl, exE, dIsA, dCat, catchD, subE, Ex.ix, endsD, dLc, dISeq, dIRng1, dIRng2, dIEnum, dFor, dDcT, dDcK, dCallV, mStarts_str, mIndex_str, mUpper_str, dSortSet, dListZip, dListRng, dDnew, dLc2, List.getElem?_cons_zero, List.getElem?_cons_succ, List.set_cons_zero, List.set_cons_succ, onL_lst, isA_non, isA_int_int, isA_bool_int, isA_str_int, isA_tup_int, isA_lst_int, isA_int_str, isA_bool_str, isA_str_str, isA_tup_str, isA_lst_str, isA_int_tup, isA_bool_tup, isA_str_tup, isA_tup_tup, isA_lst_tup, isA_int_bl, isA_bool_bl, isA_str_bl, isA_tup_bl, isA_lst_bl, dAdd_int, dAdd_str, dAdd_tup, dAdd_ref, dSub_int, dLt_int, dLe_int, dGt_int, dGe_int, dMul_int, dMul_str, dMul_ref, dMod_int, dFdiv_int, dPow_int, dIsN_, dNotN_, isNon_int, isNon_non, dEq_str, dEq_int, dNe_str, dNe_int, dIn_sign, dIx_str, dIx_tup, dIx_scr, dIx_ref, dCut_str, dCut_tup, dCut_scr, dCut_ref, bLen_str, bLen_tup, bLen_ref, bInt_int, bInt_bl, bTup_tup, bTup_ref, bList_str, bList_tup, bList_ref, tyD_str, mAppend_ref, mExtend_ref, tyL, dSetL_ref, mJoin_ref, bMin_ref, bMax_ref, atI_0, atI_1, atI_2, e2]
          refine ⟨.ref as[x], atI_lt (by rw [List.getElem?_map, List.getElem?_eq_getElem hx]; rfl), by omega, ?_⟩
          refine take_mm P M2 (by omega) (by omega) (by omega) fun y g3 y0 y1 M3 Mm3 => ?_
          have R3 := rows_moved R2 hpn Mm3
          have e3 := moved_old Mm3 e2 fun z => by subst z; exact hpn hps
          obtain ⟨y, rfl⟩ : ∃ t' : Nat, y = t' := ⟨y.toNat, by omega⟩
          obtain ⟨v, rfl⟩ : ∃ t' : Nat, v = t' := ⟨v.toNat, by omega⟩
          have hax := List.getElem?_eq_getElem hx
          obtain ⟨ha0, row, hrow, hga⟩ := R3.2.2 x _ hax
          have hrm := List.mem_of_getElem? hrow
          have hlr := (G row hrm).1
          simp only [dSetL_ref, hga, onL_lst]
          refine ⟨y, ?_, ⟨_, rfl⟩, hjn, rows.set x (row.set y (some v)), ?_, good_set G hrm (by omega), ?_, ?_⟩
          · rw [List.length_map]
            exact ixN_lt (by omega)
          · have e : (row.map optD).set y (.int (v : Nat)) = (row.set y (some v)).map optD := by rw [List.map_set]; rfl
            rw [e]
            exact rows_set R3 hax
          · rw [put_ne]
            · exact e3
            · intro z
              subst z
              rw [e3] at hga
              have hga := DO.lst.inj (Option.some.inj hga)
              have h0 : (as.map D.ref)[0]? = some (D.ref (as[0]'(by omega))) := by rw [List.getElem?_map, List.getElem?_eq_getElem (by omega)]; rfl
              rw [hga, List.getElem?_map] at h0
              obtain ⟨o, _, e⟩ := Option.map_eq_some_iff.mp h0
              cases o <;> cases e
          · exact mv_le (mv_upd M3 ha0) (by omega)
      · obtain ⟨hin, rfl⟩ := rngD_get hd
        refine ⟨_, rfl, fun _ => ?_, fun z => by cases z⟩
        simp only [forall_const, true_implies, false_implies, implies_true, and_true, true_and, reduceCtorEq, Bool.not_true, Bool.not_false, Bool.true_xor, Bool.false_xor, Option.some.injEq, exists_eq_left', put_same, onB_bl, dSeq, dNext, dBreak, dDrop, dRet, dRetN, dIfS, dName, dgNil, dgCons, dgTup, dAsg, dPar, dPar3, dSetI, dgSub, dRaise, dVar, dC, dOp, dTest, dAnd, dOr, dNot, dAndV, dOrV, dNotV, dIf, dNil, dCons, dTup, dLst, dCall, dCB, dMt, dMt0, dInC, dIxC, dChain, dNeg, dNoPart, dPart, dSl, exE, dIsA, dCat, catchD, subE, Ex.ix, endsD, dLc, dISeq, dIRng1, dIRng2, dIEnum, dFor, dDcT, dDcK, dCallV, mStarts_str, mIndex_str, mUpper_str, dSortSet, dListZip, dListRng, dDnew, dLc2, List.getElem?_cons_zero, List.getElem?_cons_succ, List.set_cons_zero, List.set_cons_succ, onL_lst, isA_non, isA_int_int, isA_bool_int, isA_str_int, isA_tup_int, isA_lst_int, isA_int_str, isA_bool_str, isA_str_str, isA_tup_str, isA_lst_str, isA_int_tup, isA_bool_tup, isA_str_tup, isA_tup_tup, isA_lst_tup, isA_int_bl, isA_bool_bl, isA_str_bl, isA_tup_bl, isA_lst_bl, dAdd_int, dAdd_str, dAdd_tup, dAdd_ref, dSub_int, dLt_int, dLe_int, dGt_int, dGe_int, dMul_int, dMul_str, dMul_ref, dMod_int, dFdiv_int, dPow_int, dIsN_, dNotN_, isNon_int, isNon_non, dEq_str, dEq_int, dNe_str, dNe_int, dIn_sign, dIx_str, dIx_tup, dIx_scr, dIx_ref, dCut_str, dCut_tup, dCut_scr, dCut_ref, bLen_str, bLen_tup, bLen_ref, bInt_int, bInt_bl, bTup_tup, bTup_ref, bList_str, bList_tup, bList_ref, tyD_str, mAppend_ref, mExtend_ref, tyL, dSetL_ref, mJoin_ref, bMin_ref, bMax_ref, atI_0, atI_1, atI_2, dwipe]
        refine lcB_map (fun d => match d with | .str [c] => optD (if c = c0 then some ((i + 1) % N) else none) | _ => .non) True.intro (by rw [List.length_map]; omega) (fun d hd => ?_) fun u nu => ?_
        · obtain ⟨c, hc, rfl⟩ := List.mem_map.mp hd
          refine ⟨_, rfl, fun K k => ?_⟩
          simp only [forall_const, true_implies, false_implies, implies_true, and_true, true_and, reduceCtorEq, Bool.not_true, Bool.not_false, Bool.true_xor, Bool.false_xor, Option.some.injEq, exists_eq_left', put_same, onB_bl, dSeq, dNext, dBreak, dDrop, dRet, dRetN, dIfS, dName, dgNil, dgCons, dgTup, dAsg, dPar, dPar3, dSetI, dgSub, dRaise, dVar, dC, dOp, dTest, dAnd, dOr, dNot, dAndV, dOrV, dNotV, dIf, dNil, dCons, dTup, dLst, dCall, dCB, dMt, dMt0, dInC, dIxC, dChain, dNeg, dNoPart, dPart, dSl, exE, dIsA, dCat, catchD, subE, Ex.ix, endsD, dLc, dISeq, dIRng1, dIRng2, dIEnum, dFor, dDcT, dDcK, dCallV, mStarts_str, mIndex_str, mUpper_str, dSortSet, dListZip, dListRng, dDnew, dLc2, List.getElem?_cons_zero, List.getElem?_cons_succ, List.set_cons_zero, List.set_cons_succ, onL_lst, isA_non, isA_int_int, isA_bool_int, isA_str_int, isA_tup_int, isA_lst_int, isA_int_str, isA_bool_str, isA_str_str, isA_tup_str, isA_lst_str, isA_int_tup, isA_bool_tup, isA_str_tup, isA_tup_tup, isA_lst_tup, isA_int_bl, isA_bool_bl, isA_str_bl, isA_tup_bl, isA_lst_bl, dAdd_int, dAdd_str, dAdd_tup, dAdd_ref, dSub_int, dLt_int, dLe_int, dGt_int, dGe_int, dMul_int, dMul_str, dMul_ref, dMod_int, dFdiv_int, dPow_int, dIsN_, dNotN_, isNon_int, isNon_non, dEq_str, dEq_int, dNe_str, dNe_int, dIn_sign, dIx_str, dIx_tup, dIx_scr, dIx_ref, dCut_str, dCut_tup, dCut_scr, dCut_ref, bLen_str, bLen_tup, bLen_ref, bInt_int, bInt_bl, bTup_tup, bTup_ref, bList_str, bList_tup, bList_ref, tyD_str, mAppend_ref, mExtend_ref, tyL, dSetL_ref, mJoin_ref, bMin_ref, bMax_ref, atI_0, atI_1, atI_2, dwipe]
          refine ⟨by omega, c0, hc0, ?_⟩
          refine ⟨fun z => ?_, fun z => ?_⟩
          · have z : c = c0 := by simpa using z
            refine ⟨by omega, ?_⟩
            have e : ((0 + (i : Int)) + 1) % (N : Int) = (((i + 1) % N : Nat) : Int) := by rw [Int.natCast_emod]; congr 1; omega
            rw [e]
            simpa [z, optD] using k
          · have z : c ≠ c0 := by simpa using z
            simpa [z, optD] using k
        · have er : (L.map fun c => D.str [c]).map (fun d => (match d with | .str [c] => optD (if c = c0 then some ((i + 1) % N) else none) | _ => D.non)) = (L.map fun c => if c = c0 then some ((i + 1) % N) else none).map optD := by
            rw [List.map_map, List.map_map]
            rfl
          rw [er]
          refine ⟨by rw [List.length_map]; omega, as ++ [u], rows ++ [L.map fun c => if c = c0 then some ((i + 1) % N) else none], by simp, by simp [hi], rows_snoc R nu (mv_none M nu), ?_, mv_new M nu, by omega⟩
          intro r hr
          rcases List.mem_append.mp hr with z | z
          · exact G r z
          · simp at z
            subst z
            refine ⟨by simp, fun q hq => ?_⟩
            obtain ⟨c, _, e⟩ := List.mem_map.mp hq
            split at e
            · cases e; exact Nat.mod_lt _ (by omega)
            · cases e
    · refine ⟨by show (0 : Nat) ≤ sizeLine; omega, fun ps nps => ⟨⟨by omega, by omega⟩, ?_⟩⟩
      have hps := mv_none M nps
      obtain ⟨w', rfl⟩ : ∃ t' : Nat, way = t' := ⟨way.toNat, by omega⟩
      refine forB_inv (fun i δ h' => (∃ s10, δ = [some (.ref p), some (.int many), some (.int at'), some (.str dr), some (.str L), some (.int (N : Nat)), some (.int (w' : Nat)), some (.ref ps), none, none, s10, none, none]) ∧ i ≤ N ∧ ∃ (as : List Addr) (rows : List (List (Option Nat))), as.length = i ∧ Rows h h' as rows ∧ goodRows L N rows ∧ h' ps = some (.lst (as.map D.ref)) ∧ ps ∉ as ∧ Mv h p (5 + 3 * i) h')
        ⟨⟨_, rfl⟩, Nat.zero_le _, [], [], rfl, rows_nil, (fun r hr => by cases hr), put_same, (fun z => by cases z), mv_le (mv_new M nps) (by omega)⟩ (fun _ _ _ _ => True.intro) ?_ ?_
      · rintro δ g ⟨⟨s10, rfl⟩, _, as, rows, hi, Ro, G, epo, pas, Mo⟩
        rw [rngD_len] at hi Mo
        have hi : as.length = N := by omega
        simp only [forall_const, true_implies, false_implies, implies_true, and_true, true_and, reduceCtorEq, Bool.not_true, Bool.not_false, Bool.true_xor, Bool.false_xor, Option.some.injEq, exists_eq_left', put_same, onB_bl, dSeq, dNext, dBreak, dDrop, dRet, dRetN, dIfS, dName, dgNil, dgCons, dgTup, dAsg, dPar, dPar3, dSetI, dgSub, dRaise, dVar, dC, dOp, dTest, dAnd, dOr, dNot, dAndV, dOrV, dNotV, dIf, dNil, dCons, dTup, dLst, dCall, dCB, dMt, dMt0, dInC, dIxC, dChain, dNeg, dNoPart, dPart, dSl, exE, dIsA, dCat, catchD, subE, Ex.ix, endsD, dLc, dISeq, dIRng1, dIRng2, dIEnum, dFor, dDcT, dDcK, dCallV, mStarts_str, mIndex_str, mUpper_str, dSortSet, dListZip, dListRng, dDnew, dLc2, List.getElem?_cons_zero, List.getElem?_cons_succ, List.set_cons_zero, List.set_cons_succ, onL_lst, isA_non, isA_int_int, isA_bool_int, isA_str_int, isA_tup_int, isA_lst_int, isA_int_str, isA_bool_str, isA_str_str, isA_tup_str, isA_lst_str, isA_int_tup, isA_bool_tup, isA_str_tup, isA_tup_tup, isA_lst_tup, isA_int_bl, isA_bool_bl, isA_str_bl, isA_tup_bl, isA_lst_bl, dAdd_int, dAdd_str, dAdd_tup, dAdd_ref, dSub_int, dLt_int, dLe_int, dGt_int, dGe_int, dMul_int, dMul_str, dMul_ref, dMod_int, dFdiv_int, dPow_int, dIsN_, dNotN_, isNon_int, isNon_non, dEq_str, dEq_int, dNe_str, dNe_int, dIn_sign, dIx_str, dIx_tup, dIx_scr, dIx_ref, dCut_str, dCut_tup, dCut_scr, dCut_ref, bLen_str, bLen_tup, bLen_ref, bInt_int, bInt_bl, bTup_tup, bTup_ref, bList_str, bList_tup, bList_ref, tyD_str, mAppend_ref, mExtend_ref, tyL, dSetL_ref, mJoin_ref, bMin_ref, bMax_ref, atI_0, atI_1, atI_2]
        refine ⟨⟨by omega, by omega⟩, ?_⟩
        refine ⟨fun j acc h' => j ≤ N ∧ Rows h h' as rows ∧ h' ps = some (.lst (as.map D.ref)) ∧ Mv h p (30 + j) h' ∧ ∃ E : List Nat, acc = natsD E ∧ E.Pairwise (· < ·) ∧ E.length ≤ j ∧ ∀ e ∈ E, e < j, ⟨Nat.zero_le _, Ro, epo, mv_le Mo (by omega), [], rfl, List.Pairwise.nil, Nat.zero_le _, (fun e he => by cases he)⟩, ?_⟩
        rintro j acc g ⟨hj, R, eps, M, E, rfl, hA, hEl, hE⟩
        refine ⟨True.intro, fun e pe npe => ?_, fun d hd => ?_⟩
        · have e : j = N := by rw [e, rngD_len]; omega
          subst e
          subst hT
          show t__law_any_machine_5 _ _ _
          exact end_any (m := 36) (E := E) _ rfl (mv_le (mv_new M npe) (by omega)) (by omega) (rows_new R npe) (put_old eps npe) put_same (nth_ok hL hP l1 l3 (R.1.symm.trans hi) N1 N6 G hE hA) q _ _ _ _ _ _ _ _ _
        · obtain ⟨hin, rfl⟩ := rngD_get hd
          refine ⟨_, rfl, ?_⟩
          simp only [forall_const, true_implies, false_implies, implies_true, and_true, true_and, reduceCtorEq, Bool.not_true, Bool.not_false, Bool.true_xor, Bool.false_xor, Option.some.injEq, exists_eq_left', put_same, onB_bl, dSeq, dNext, dBreak, dDrop, dRet, dRetN, dIfS, dName, dgNil, dgCons, dgTup, dAsg, dPar, dPar3, dSetI, dgSub, dRaise, dVar, dC, dOp, dTest, dAnd, dOr, dNot, dAndV, dOrV, dNotV, dIf, dNil, dCons, dTup, dLst, dCall, dCB, dMt, dMt0, dInC, dIxC, dChain, dNeg, dNoPart, dPart, dSl, exE, dIsA, dCat, catchD, subE, Ex.ix, endsD, dLc, dISeq, dIRng1, dIRng2, dIEnum, dFor, dDcT, dDcK, dCallV, mStarts_str, mIndex_str, mUpper_str, dSortSet, dListZip, dListRng, dDnew, dLc2, List.getElem?_cons_zero, List.getElem?_cons_succ, List.set_cons_zero, List.set_cons_succ, onL_lst, isA_non, isA_int_int, isA_bool_int, isA_str_int, isA_tup_int, isA_lst_int, isA_int_str, isA_bool_str, isA_str_str, isA_tup_str, isA_lst_str, isA_int_tup, isA_bool_tup, isA_str_tup, isA_tup_tup, isA_lst_tup, isA_int_bl, isA_bool_bl, isA_str_bl, isA_tup_bl, isA_lst_bl, dAdd_int, dAdd_str, dAdd_tup, dAdd_ref, dSub_int, dLt_int, dLe_int, dGt_int, dGe_int, dMul_int, dMul_str, dMul_ref, dMod_int, dFdiv_int, dPow_int, dIsN_, dNotN_, isNon_int, isNon_non, dEq_str, dEq_int, dNe_str, dNe_int, dIn_sign, dIx_str, dIx_tup, dIx_scr, dIx_ref, dCut_str, dCut_tup, dCut_scr, dCut_ref, bLen_str, bLen_tup, bLen_ref, bInt_int, bInt_bl, bTup_tup, bTup_ref, bList_str, bList_tup, bList_ref, tyD_str, mAppend_ref, mExtend_ref, tyL, dSetL_ref, mJoin_ref, bMin_ref, bMax_ref, atI_0, atI_1, atI_2, dwipe]
          refine take_mm P M (by omega) (by omega) (by omega) fun v g1 v0 v1 M1 Mm1 => ?_
          have R1 := rows_moved R hpn Mm1
          have e1 := moved_old Mm1 eps fun z => by subst z; exact hpn hps
          try simp only [forall_const, true_implies, false_implies, implies_true, and_true, true_and, reduceCtorEq, Bool.not_true, Bool.not_false, Bool.true_xor, Bool.false_xor, Option.some.injEq, exists_eq_left', put_same, onB_bl, dSeq, dNext, dBreak, dDrop, dRet, dRetN, dIfS, dName, dgNil, dgCons, dgTup, dAsg, dPar, dPar3, dSetI, dgSub, dRaise, dVar, dC, dOp, dTest, dAnd, dOr, dNot, dAndV, dOrV, dNotV, dIf, dNil, dCons, dTup, dLst, dCall, dCB, dMt, dMt0, dInC, dIxC, dChain, dNeg, dNoPart, dPart, dSl, exE, dIsA, dCat, catchD, subE, Ex.ix, endsD, dLc, dISeq, dIRng1, dIRng2, dIEnum, dFor, dDcT, dDcK, dCallV, mStarts_str, mIndex_str, mUpper_str, dSortSet, dListZip, dListRng, dDnew, dLc2, List.getElem?_cons_zero, List.getElem?_cons_succ, List.set_cons_zero, List.set_cons_succ, onL_lst, isA_non, isA_int_int, isA_bool_int, isA_str_int, isA_tup_int, isA_lst_int, isA_int_str, isA_bool_str, isA_str_str, isA_tup_str, isA_lst_str, isA_int_tup, isA_bool_tup, isA_str_tup, isA_tup_tup, isA_lst_tup, isA_int_bl, isA_bool_bl, isA_str_bl, isA_tup_bl, isA_lst_bl, dAdd_int, dAdd_str, dAdd_tup, dAdd_ref, dSub_int, dLt_int, dLe_int, dGt_int, dGe_int, dMul_int, dMul_str, dMul_ref, dMod_int, dFdiv_int, dPow_int, dIsN_, dNotN_, isNon_int, isNon_non, dEq_str, dEq_int, dNe_str, dNe_int, dIn_sign, dIx_str, dIx_tup, dIx_scr, dIx_ref, dCut_str, dCut_tup, dCut_scr, dCut_ref, bLen_str, bLen_tup, bLen_ref, bInt_int, bInt_bl, bTup_tup, bTup_ref, bList_str, bList_tup, bList_ref, tyD_str, mAppend_ref, mExtend_ref, tyL, dSetL_ref, mJoin_ref, bMin_ref, bMax_ref, atI_0, atI_1, atI_2]
          refine ⟨fun _ => ⟨by simp [natsD]; omega, by omega, R1, e1, mv_le M1 (by omega), E ++ [j], ?_, ?_, by simp; omega, ?_⟩, fun _ => ⟨by omega, R1, e1, mv_le M1 (by omega), E, rfl, hA, by omega, fun e he => by have := hE e he; omega⟩⟩
          · simp [natsD]
          · rw [List.pairwise_append]
            exact ⟨hA, by simp, fun a ha b hb => by simp at hb; subst hb; exact hE a ha⟩
          · intro e he
            rcases List.mem_append.mp he with z | z
            · have := hE e z; omega
            · simp at z; omega
      · rintro i d δ g hd ⟨⟨s10, rfl⟩, hi, as, rows, hl, R, G, eps, pas, M⟩
        obtain ⟨hin, rfl⟩ := rngD_get hd
        simp only [forall_const, true_implies, false_implies, implies_true, and_true, true_and, reduceCtorEq, Bool.not_true, Bool.not_false, Bool.true_xor, Bool.false_xor, Option.some.injEq, exists_eq_left', put_same, onB_bl, dSeq, dNext, dBreak, dDrop, dRet, dRetN, dIfS, dName, dgNil, dgCons, dgTup, dAsg, dPar, dPar3, dSetI, dgSub, dRaise, dVar, dC, dOp, dTest, dAnd, dOr, dNot, dAndV, dOrV, dNotV, dIf, dNil, dCons, dTup, dLst, dCall, dCB, dMt, dMt0, dInC, dIxC, dChain, dNeg, dNoPart, dPart, dSl, exE, dIsA, dCat, catchD, subE, Ex.ix, endsD, dLc, dISeq, dIRng1, dIRng2, dIEnum, dFor, dDcT, dDcK, dCallV, mStarts_str, mIndex_str, mUpper_str, dSortSet, dListZip, dListRng, dDnew, dLc2, List.getElem?_cons_zero, List.getElem?_cons_succ, List.set_cons_zero, List.set_cons_succ, onL_lst, isA_non, isA_int_int, isA_bool_int, isA_str_int, isA_tup_int, isA_lst_int, isA_int_str, isA_bool_str, isA_str_str, isA_tup_str, isA_lst_str, isA_int_tup, isA_bool_tup, isA_str_tup, isA_tup_tup, isA_lst_tup, isA_int_bl, isA_bool_bl, isA_str_bl, isA_tup_bl, isA_lst_bl, dAdd_int, dAdd_str, dAdd_tup, dAdd_ref, dSub_int, dLt_int, dLe_int, dGt_int, dGe_int, dMul_int, dMul_str, dMul_ref, dMod_int, dFdiv_int, dPow_int, dIsN_, dNotN_, isNon_int, isNon_non, dEq_str, dEq_int, dNe_str, dNe_int, dIn_sign, dIx_str, dIx_tup, dIx_scr, dIx_ref, dCut_str, dCut_tup, dCut_scr, dCut_ref, bLen_str, bLen_tup, bLen_ref, bInt_int, bInt_bl, bTup_tup, bTup_ref, bList_str, bList_tup, bList_ref, tyD_str, mAppend_ref, mExtend_ref, tyL, dSetL_ref, mJoin_ref, bMin_ref, bMax_ref, atI_0, atI_1, atI_2, eps]
        refine ⟨fun j acc h' => j ≤ L.length ∧ Rows h h' as rows ∧ h' ps = some (.lst (as.map D.ref)) ∧ Mv h p (5 + 3 * i + j) h' ∧ ∃ r : List (Option Nat), acc = r.map optD ∧ r.length = j ∧ ∀ q, some q ∈ r → q < N, ⟨Nat.zero_le _, R, eps, mv_le M (by omega), [], rfl, rfl, (fun q hq => by cases hq)⟩, ?_⟩
        rintro j acc g ⟨hj, R, eps, M, r, rfl, hrl, hr⟩
        refine ⟨True.intro, fun e u nu => ?_, fun d hd => ?_⟩
        · have e : j = L.length := by simpa using e
          subst e
          have e1 := put_old (o := .lst (r.map optD)) eps nu
          simp only [forall_const, true_implies, false_implies, implies_true, and_true, true_and, reduceCtorEq, Bool.not_true, Bool.not_false, Bool.true_xor, Bool.false_xor, Option.some.injEq, exists_eq_left', put_same, onB_bl, dSeq, dNext, dBreak, dDrop, dRet, dRetN, dIfS, dName, dgNil, dgCons, dgTup, dAsg, dPar, dPar3, dSetI, dgSub, dRaise, dVar, dC, dOp, dTest, dAnd, dOr, dNot, dAndV, dOrV, dNotV, dIf, dNil, dCons, dTup, dLst, dCall, dCB, dMt, dMt0, dInC, dIxC, dChain, dNeg, dNoPart, dPart, dSl, exE, dIsA, dCat, catchD, subE, Ex.ix, endsD, dLc, dISeq, dIRng1, dIRng2, dIEnum, dFor, dDcT, dDcK, dCallV, mStarts_str, mIndex_str, mUpper_str, dSortSet, dListZip, dListRng, dDnew, dLc2, List.getElem?_cons_zero, List.getElem?_cons_succ, List.set_cons_zero, List.set_cons_succ, onL_lst, isA_non, isA_int_int, isA_bool_int, isA_str_int, isA_tup_int, isA_lst_int, isA_int_str, isA_bool_str, isA_str_str, isA_tup_str, isA_lst_str, isA_int_tup, isA_bool_tup, isA_str_tup, isA_tup_tup, isA_lst_tup, isA_int_bl, isA_bool_bl, isA_str_bl, isA_tup_bl, isA_lst_bl, dAdd_int, dAdd_str, dAdd_tup, dAdd_ref, dSub_int, dLt_int, dLe_int, dGt_int, dGe_int, dMul_int, dMul_str, dMul_ref, dMod_int, dFdiv_int, dPow_int, dIsN_, dNotN_, isNon_int, isNon_non, dEq_str, dEq_int, dNe_str, dNe_int, dIn_sign, dIx_str, dIx_tup, dIx_scr, dIx_ref, dCut_str, dCut_tup, dCut_scr, dCut_ref, bLen_str, bLen_tup, bLen_ref, bInt_int, bInt_bl, bTup_tup, bTup_ref, bList_str, bList_tup, bList_ref, tyD_str, mAppend_ref, mExtend_ref, tyL, dSetL_ref, mJoin_ref, bMin_ref, bMax_ref, atI_0, atI_1, atI_2, e1]
          have hu0 := mv_none M nu
          have pu : ps ≠ u := fun z => by subst z; rw [eps] at nu; cases nu
          refine ⟨by rw [List.length_map]; omega, ⟨_, rfl⟩, by omega, as ++ [u], rows ++ [r], by simp [hl], rows_put (rows_snoc R nu hu0) (by simp [pas, pu]), ?_, by simp, by simp [pas, pu], mv_le (mv_upd (mv_new M nu) hps) (by omega)⟩
          intro r' hr'
          rcases List.mem_append.mp hr' with z | z
          · exact G r' z
          · simp at z
            subst z
            exact ⟨hrl, hr⟩
        · rw [List.getElem?_map] at hd
          obtain ⟨c, hc, rfl⟩ := Option.map_eq_some_iff.mp hd
          have hjl : j < L.length := (List.getElem?_eq_some_iff.mp hc).1
          refine ⟨_, rfl, fun _ => ?_, fun z => by cases z⟩
          simp only [forall_const, true_implies, false_implies, implies_true, and_true, true_and, reduceCtorEq, Bool.not_true, Bool.not_false, Bool.true_xor, Bool.false_xor, Option.some.injEq, exists_eq_left', put_same, onB_bl, dSeq, dNext, dBreak, dDrop, dRet, dRetN, dIfS, dName, dgNil, dgCons, dgTup, dAsg, dPar, dPar3, dSetI, dgSub, dRaise, dVar, dC, dOp, dTest, dAnd, dOr, dNot, dAndV, dOrV, dNotV, dIf, dNil, dCons, dTup, dLst, dCall, dCB, dMt, dMt0, dInC, dIxC, dChain, dNeg, dNoPart, dPart, dSl, exE, dIsA, dCat, catchD, subE, Ex.ix, endsD, dLc, dISeq, dIRng1, dIRng2, dIEnum, dFor, dDcT, dDcK, dCallV, mStarts_str, mIndex_str, mUpper_str, dSortSet, dListZip, dListRng, dDnew, dLc2, List.getElem?_cons_zero, List.getElem?_cons_succ, List.set_cons_zero, List.set_cons_succ, onL_lst, isA_non, isA_int_int, isA_bool_int, isA_str_int, isA_tup_int, isA_lst_int, isA_int_str, isA_bool_str, isA_str_str, isA_tup_str, isA_lst_str, isA_int_tup, isA_bool_tup, isA_str_tup, isA_tup_tup, isA_lst_tup, isA_int_bl, isA_bool_bl, isA_str_bl, isA_tup_bl, isA_lst_bl, dAdd_int, dAdd_str, dAdd_tup, dAdd_ref, dSub_int, dLt_int, dLe_int, dGt_int, dGe_int, dMul_int, dMul_str, dMul_ref, dMod_int, dFdiv_int, dPow_int, dIsN_, dNotN_, isNon_int, isNon_non, dEq_str, dEq_int, dNe_str, dNe_int, dIn_sign, dIx_str, dIx_tup, dIx_scr, dIx_ref, dCut_str, dCut_tup, dCut_scr, dCut_ref, bLen_str, bLen_tup, bLen_ref, bInt_int, bInt_bl, bTup_tup, bTup_ref, bList_str, bList_tup, bList_ref, tyD_str, mAppend_ref, mExtend_ref, tyL, dSetL_ref, mJoin_ref, bMin_ref, bMax_ref, atI_0, atI_1, atI_2, dwipe]
          refine ⟨by show (1 : Nat) ≤ sizeLine; omega, fun u1 n1' => ?_⟩
          refine ⟨⟨by omega, by omega, by show 1 * _ ≤ _; omega⟩, fun u2 n2 => ?_⟩
          refine ⟨by omega, by omega, fun u3 n3 => ?_⟩
          have e2 := put_old (o := .lst (rngD 0 (N : Int).toNat)) (put_same (h := put g u1 (.lst [D.non])) (a := u2) (o := .lst (repD (Int.toNat (w' : Nat)) [D.non]))) n3
          simp only [e2, onL_lst, put_same]
          refine ⟨by rw [repD_len, rngD_len]; simp; omega, fun u4 n4 => ?_⟩
          have M4 := mv_new (o := .lst (rngD 0 (N : Int).toNat)) (mv_new (o := .lst (repD (Int.toNat (w' : Nat)) [D.non])) (mv_new (o := .lst [D.non]) M n1') n2) n3
          have R4 := rows_new (o := .lst (rngD 0 (N : Int).toNat)) (rows_new (o := .lst (repD (Int.toNat (w' : Nat)) [D.non])) (rows_new (o := .lst [D.non]) R n1') n2) n3
          have e4 := put_old (o := .lst (rngD 0 (N : Int).toNat)) (put_old (o := .lst (repD (Int.toNat (w' : Nat)) [D.non])) (put_old (o := .lst [D.non]) eps n1') n2) n3
          have M5 := mv_new (o := .lst (repD (Int.toNat (w' : Nat)) [D.non] ++ rngD 0 (N : Int).toNat)) M4 n4
          have R5 := rows_new (o := .lst (repD (Int.toNat (w' : Nat)) [D.non] ++ rngD 0 (N : Int).toNat)) R4 n4
          have e5 := put_old (o := .lst (repD (Int.toNat (w' : Nat)) [D.non] ++ rngD 0 (N : Int).toNat)) e4 n4
          have n4p : u4 ≠ p := fun z => (pen_new (mv_pen P M4) n4) z.symm
          refine ⟨rfl, n4p, _, put_same, pen_le (mv_pen P M5) (by omega), ?_, ?_, fun d g' hd Mm => ?_⟩
          · intro z
            have := congrArg List.length z
            rw [List.length_append, rngD_len] at this
            simp at this
            omega
          · rw [List.length_append, repD_len, rngD_len]; simp; omega
          · have R6 := rows_moved R5 hpn Mm
            have e6 := moved_old Mm e5 fun z => by subst z; exact hpn hps
            have hd' : ∃ o : Option Nat, d = optD o ∧ ∀ q, o = some q → q < N := by
              rcases List.mem_append.mp hd with z | z
              · rw [repD_one] at z
                exact ⟨none, (List.mem_replicate.mp z).2, fun q e => by cases e⟩
              · obtain ⟨k, hk, rfl⟩ := rngD_mem z
                exact ⟨some k, by simp [optD], fun q e => by cases e; simpa using hk⟩
            obtain ⟨o, rfl, ho⟩ := hd'
            refine ⟨by rw [List.length_map]; omega, by omega, R6, e6, mv_le (mv_moved M5 Mm) (by omega), r ++ [o], by simp, by simp [hrl], fun q hq => ?_⟩
            rcases List.mem_append.mp hq with z | z
            · exact hr q z
            · simp at z
              exact ho q z.symm
end Tw

namespace Tw
open PySem PySem.Spec PyProof.Rows L2
def sp__law_run : SpD := fun ds h Q _ => ∃ (M : Mch) (o : Option Nat) (w : Tx), ds = [mchD M, optD o, .str w] ∧ M.ok ∧ (∀ a, o = some a → a < M.R.length) ∧ (∀ c ∈ w, c ∈ M.L) ∧ w.length ≤ 10000 ∧ Q (optD (M.run o w)) h
/-- _law_run(machine, state, word); slots: machine 0, state 1, word 2, letter 3 -/
def N__law_run : List Str := ["machine", "state", "word", "letter"]
def m__law_run : MS := dSeq (dFor (dISeq (dVar 2)) (dName 3) (dAsg (dIf (dTest (dOp dIsN (dVar 1) (dC .non))) (dC .non) (dOp dIx (dOp dIx (dOp dIx (dVar 0) (dC (.int 1))) (dVar 1)) (dMt "str" mIndex (dOp dIx (dVar 0) (dC (.int 0))) (dCons (dVar 3) (dNil))))) (dName 1))) (dRet (dVar 1))
theorem st__law_run (a0 a1 a2 : D) : startD N__law_run [a0, a1, a2] = [some a0, some a1, some a2, none] := rfl
theorem ok__law_run (ds : List D) (h : DHp) (Q : DK) (E : DX) (hn : ds.length = 3) (q : sp__law_run ds h Q E) : m__law_run (endsD Q E) (startD N__law_run ds) h := by
  have hs := sizeLine_eq
  obtain ⟨M, o, w, rfl, ok, ho, hw, hz, q⟩ := q
  have e : mchD M = .tup [.str M.L, .tup (M.R.map rowD), .tup (natsD M.E)] := rfl
  simp only [m__law_run, st__law_run, forall_const, true_implies, false_implies, implies_true, and_true, true_and, reduceCtorEq, Bool.not_true, Bool.not_false, Bool.true_xor, Bool.false_xor, Option.some.injEq, exists_eq_left', put_same, onB_bl, dSeq, dNext, dBreak, dDrop, dRet, dRetN, dIfS, dName, dgNil, dgCons, dgTup, dAsg, dPar, dPar3, dSetI, dgSub, dRaise, dVar, dC, dOp, dTest, dAnd, dOr, dNot, dAndV, dOrV, dNotV, dIf, dNil, dCons, dTup, dLst, dCall, dCB, dMt, dMt0, dInC, dIxC, dChain, dNeg, dNoPart, dPart, dSl, exE, dIsA, dCat, catchD, subE, Ex.ix, endsD, dLc, dISeq, dIRng1, dIRng2, dIEnum, dFor, dDcT, dDcK, dCallV, mStarts_str, mIndex_str, mUpper_str, dSortSet, dListZip, dListRng, dDnew, dLc2, List.getElem?_cons_zero, List.getElem?_cons_succ, List.set_cons_zero, List.set_cons_succ, onL_lst, isA_non, isA_int_int, isA_bool_int, isA_str_int, isA_tup_int, isA_lst_int, isA_int_str, isA_bool_str, isA_str_str, isA_tup_str, isA_lst_str, isA_int_tup, isA_bool_tup, isA_str_tup, isA_tup_tup, isA_lst_tup, isA_int_bl, isA_bool_bl, isA_str_bl, isA_tup_bl, isA_lst_bl, dAdd_int, dAdd_str, dAdd_tup, dAdd_ref, dSub_int, dLt_int, dLe_int, dGt_int, dGe_int, dMul_int, dMul_str, dMul_ref, dMod_int, dFdiv_int, dPow_int, dIsN_, dNotN_, isNon_int, isNon_non, dEq_str, dEq_int, dNe_str, dNe_int, dIn_sign, dIx_str, dIx_tup, dIx_scr, dIx_ref, dCut_str, dCut_tup, dCut_scr, dCut_ref, bLen_str, bLen_tup, bLen_ref, bInt_int, bInt_bl, bTup_tup, bTup_ref, bList_str, bList_tup, bList_ref, tyD_str, mAppend_ref, mExtend_ref, tyL, dSetL_ref, mJoin_ref, bMin_ref, bMax_ref, atI_0, atI_1, atI_2]
  refine forB_inv (fun i δ h' => h' = h ∧ i ≤ w.length ∧ ∃ (b : Option Nat) (s3 : Option D), δ = [some (mchD M), some (optD b), some (.str w), s3] ∧ (∀ a, b = some a → a < M.R.length) ∧ M.run b (w.drop i) = M.run o w)
    ⟨rfl, Nat.zero_le _, o, _, rfl, ho, rfl⟩ (fun _ _ _ _ => True.intro) ?_ ?_
  · rintro δ h' ⟨rfl, _, b, s3, rfl, hb, e⟩
    rw [List.length_map, List.drop_length] at e
    have e : b = M.run o w := by rw [← e]; cases b <;> rfl
    rw [← e] at q
    simp only [forall_const, true_implies, false_implies, implies_true, and_true, true_and, reduceCtorEq, Bool.not_true, Bool.not_false, Bool.true_xor, Bool.false_xor, Option.some.injEq, exists_eq_left', put_same, onB_bl, dSeq, dNext, dBreak, dDrop, dRet, dRetN, dIfS, dName, dgNil, dgCons, dgTup, dAsg, dPar, dPar3, dSetI, dgSub, dRaise, dVar, dC, dOp, dTest, dAnd, dOr, dNot, dAndV, dOrV, dNotV, dIf, dNil, dCons, dTup, dLst, dCall, dCB, dMt, dMt0, dInC, dIxC, dChain, dNeg, dNoPart, dPart, dSl, exE, dIsA, dCat, catchD, subE, Ex.ix, endsD, dLc, dISeq, dIRng1, dIRng2, dIEnum, dFor, dDcT, dDcK, dCallV, mStarts_str, mIndex_str, mUpper_str, dSortSet, dListZip, dListRng, dDnew, dLc2, List.getElem?_cons_zero, List.getElem?_cons_succ, List.set_cons_zero, List.set_cons_succ, onL_lst, isA_non, isA_int_int, isA_bool_int, isA_str_int, isA_tup_int, isA_lst_int, isA_int_str, isA_bool_str, isA_str_str, isA_tup_str, isA_lst_str, isA_int_tup, isA_bool_tup, isA_str_tup, isA_tup_tup, isA_lst_tup, isA_int_bl, isA_bool_bl, isA_str_bl, isA_tup_bl, isA_lst_bl, dAdd_int, dAdd_str, dAdd_tup, dAdd_ref, dSub_int, dLt_int, dLe_int, dGt_int, dGe_int, dMul_int, dMul_str, dMul_ref, dMod_int, dFdiv_int, dPow_int, dIsN_, dNotN_, isNon_int, isNon_non, dEq_str, dEq_int, dNe_str, dNe_int, dIn_sign, dIx_str, dIx_tup, dIx_scr, dIx_ref, dCut_str, dCut_tup, dCut_scr, dCut_ref, bLen_str, bLen_tup, bLen_ref, bInt_int, bInt_bl, bTup_tup, bTup_ref, bList_str, bList_tup, bList_ref, tyD_str, mAppend_ref, mExtend_ref, tyL, dSetL_ref, mJoin_ref, bMin_ref, bMax_ref, atI_0, atI_1, atI_2]
    exact fgt_here q
  · rintro i d δ h' hd ⟨rfl, hi, b, s3, rfl, hb, er⟩
    rw [List.getElem?_map] at hd
    obtain ⟨c, ec, rfl⟩ := Option.map_eq_some_iff.mp hd
    obtain ⟨hlt, ec'⟩ := List.getElem?_eq_some_iff.mp ec
    have hc : c ∈ M.L := hw c (List.mem_of_getElem? ec)
    have edrop : w.drop i = c :: w.drop (i + 1) := by rw [← ec']; exact List.drop_eq_getElem_cons hlt
    rw [edrop] at er
    cases b with
    | none =>
      simp only [forall_const, true_implies, false_implies, implies_true, and_true, true_and, reduceCtorEq, Bool.not_true, Bool.not_false, Bool.true_xor, Bool.false_xor, Option.some.injEq, exists_eq_left', put_same, onB_bl, dSeq, dNext, dBreak, dDrop, dRet, dRetN, dIfS, dName, dgNil, dgCons, dgTup, dAsg, dPar, dPar3, dSetI, dgSub, dRaise, dVar, dC, dOp, dTest, dAnd, dOr, dNot, dAndV, dOrV, dNotV, dIf, dNil, dCons, dTup, dLst, dCall, dCB, dMt, dMt0, dInC, dIxC, dChain, dNeg, dNoPart, dPart, dSl, exE, dIsA, dCat, catchD, subE, Ex.ix, endsD, dLc, dISeq, dIRng1, dIRng2, dIEnum, dFor, dDcT, dDcK, dCallV, mStarts_str, mIndex_str, mUpper_str, dSortSet, dListZip, dListRng, dDnew, dLc2, List.getElem?_cons_zero, List.getElem?_cons_succ, List.set_cons_zero, List.set_cons_succ, onL_lst, isA_non, isA_int_int, isA_bool_int, isA_str_int, isA_tup_int, isA_lst_int, isA_int_str, isA_bool_str, isA_str_str, isA_tup_str, isA_lst_str, isA_int_tup, isA_bool_tup, isA_str_tup, isA_tup_tup, isA_lst_tup, isA_int_bl, isA_bool_bl, isA_str_bl, isA_tup_bl, isA_lst_bl, dAdd_int, dAdd_str, dAdd_tup, dAdd_ref, dSub_int, dLt_int, dLe_int, dGt_int, dGe_int, dMul_int, dMul_str, dMul_ref, dMod_int, dFdiv_int, dPow_int, dIsN_, dNotN_, isNon_int, isNon_non, dEq_str, dEq_int, dNe_str, dNe_int, dIn_sign, dIx_str, dIx_tup, dIx_scr, dIx_ref, dCut_str, dCut_tup, dCut_scr, dCut_ref, bLen_str, bLen_tup, bLen_ref, bInt_int, bInt_bl, bTup_tup, bTup_ref, bList_str, bList_tup, bList_ref, tyD_str, mAppend_ref, mExtend_ref, tyL, dSetL_ref, mJoin_ref, bMin_ref, bMax_ref, atI_0, atI_1, atI_2, optD]
      refine ⟨hlt, none, _, rfl, (fun a z => by cases z), ?_⟩
      rw [run_none] at er ⊢
      exact er
    | some a =>
      have ha := hb a rfl
      obtain ⟨r, hr, e2, e3, _⟩ := row_at ok ha
      have hidx : M.L.idxOf c < M.L.length := List.idxOf_lt_length_iff.mpr hc
      have est : r[M.L.idxOf c]? = some (M.step a c) := by
        unfold Mch.step
        rw [e2, List.getD_eq_getElem?_getD, List.getElem?_eq_getElem (by omega)]
        rfl
      have er : M.run (M.step a c) (w.drop (i + 1)) = M.run o w := er
      rw [e]
      simp only [forall_const, true_implies, false_implies, implies_true, and_true, true_and, reduceCtorEq, Bool.not_true, Bool.not_false, Bool.true_xor, Bool.false_xor, Option.some.injEq, exists_eq_left', put_same, onB_bl, dSeq, dNext, dBreak, dDrop, dRet, dRetN, dIfS, dName, dgNil, dgCons, dgTup, dAsg, dPar, dPar3, dSetI, dgSub, dRaise, dVar, dC, dOp, dTest, dAnd, dOr, dNot, dAndV, dOrV, dNotV, dIf, dNil, dCons, dTup, dLst, dCall, dCB, dMt, dMt0, dInC, dIxC, dChain, dNeg, dNoPart, dPart, dSl, exE, dIsA, dCat, catchD, subE, Ex.ix, endsD, dLc, dISeq, dIRng1, dIRng2, dIEnum, dFor, dDcT, dDcK, dCallV, mStarts_str, mIndex_str, mUpper_str, dSortSet, dListZip, dListRng, dDnew, dLc2, List.getElem?_cons_zero, List.getElem?_cons_succ, List.set_cons_zero, List.set_cons_succ, onL_lst, isA_non, isA_int_int, isA_bool_int, isA_str_int, isA_tup_int, isA_lst_int, isA_int_str, isA_bool_str, isA_str_str, isA_tup_str, isA_lst_str, isA_int_tup, isA_bool_tup, isA_str_tup, isA_tup_tup, isA_lst_tup, isA_int_bl, isA_bool_bl, isA_str_bl, isA_tup_bl, isA_lst_bl, dAdd_int, dAdd_str, dAdd_tup, dAdd_ref, dSub_int, dLt_int, dLe_int, dGt_int, dGe_int, dMul_int, dMul_str, dMul_ref, dMod_int, dFdiv_int, dPow_int, dIsN_, dNotN_, isNon_int, isNon_non, dEq_str, dEq_int, dNe_str, dNe_int, dIn_sign, dIx_str, dIx_tup, dIx_scr, dIx_ref, dCut_str, dCut_tup, dCut_scr, dCut_ref, bLen_str, bLen_tup, bLen_ref, bInt_int, bInt_bl, bTup_tup, bTup_ref, bList_str, bList_tup, bList_ref, tyD_str, mAppend_ref, mExtend_ref, tyL, dSetL_ref, mJoin_ref, bMin_ref, bMax_ref, atI_0, atI_1, atI_2, optD]
      refine ⟨.tup (r.map optD), atI_lt (by rw [List.getElem?_map, hr]; rfl), hc, optD (M.step a c), atI_lt (by rw [List.getElem?_map, est]; rfl), ?_⟩
      first | exact ⟨rfl, hlt, M.step a c, _, rfl, fun a' z => step_lt ok ha z, er⟩ | exact ⟨hlt, M.step a c, _, rfl, fun a' z => step_lt ok ha z, er⟩
def sp__law_has : SpD := fun ds h Q _ => ∃ (M : Mch) (w : Tx), ds = [mchD M, .str w] ∧ M.ok ∧ (∀ c ∈ w, c ∈ M.L) ∧ w.length ≤ 10000 ∧ Q (.bl (M.has w)) h
/-- _law_has(machine, word); slots: machine 0, word 1 -/
def N__law_has : List Str := ["machine", "word"]
def m__law_has : MS := dRet (dOp (dIn false) (dCall 3 sp__law_run (dCons (dVar 0) (dCons (dC (.int 0)) (dCons (dVar 1) (dNil))))) (dOp dIx (dVar 0) (dC (.int 2))))
theorem st__law_has (a0 a1 : D) : startD N__law_has [a0, a1] = [some a0, some a1] := rfl
theorem ok__law_has (ds : List D) (h : DHp) (Q : DK) (E : DX) (hn : ds.length = 2) (q : sp__law_has ds h Q E) : m__law_has (endsD Q E) (startD N__law_has ds) h := by
  obtain ⟨M, w, rfl, ok, hw, hz, q⟩ := q
  simp only [m__law_has, st__law_has, forall_const, true_implies, false_implies, implies_true, and_true, true_and, reduceCtorEq, Bool.not_true, Bool.not_false, Bool.true_xor, Bool.false_xor, Option.some.injEq, exists_eq_left', put_same, onB_bl, dSeq, dNext, dBreak, dDrop, dRet, dRetN, dIfS, dName, dgNil, dgCons, dgTup, dAsg, dPar, dPar3, dSetI, dgSub, dRaise, dVar, dC, dOp, dTest, dAnd, dOr, dNot, dAndV, dOrV, dNotV, dIf, dNil, dCons, dTup, dLst, dCall, dCB, dMt, dMt0, dInC, dIxC, dChain, dNeg, dNoPart, dPart, dSl, exE, dIsA, dCat, catchD, subE, Ex.ix, endsD, dLc, dISeq, dIRng1, dIRng2, dIEnum, dFor, dDcT, dDcK, dCallV, mStarts_str, mIndex_str, mUpper_str, dSortSet, dListZip, dListRng, dDnew, dLc2, List.getElem?_cons_zero, List.getElem?_cons_succ, List.set_cons_zero, List.set_cons_succ, onL_lst, isA_non, isA_int_int, isA_bool_int, isA_str_int, isA_tup_int, isA_lst_int, isA_int_str, isA_bool_str, isA_str_str, isA_tup_str, isA_lst_str, isA_int_tup, isA_bool_tup, isA_str_tup, isA_tup_tup, isA_lst_tup, isA_int_bl, isA_bool_bl, isA_str_bl, isA_tup_bl, isA_lst_bl, dAdd_int, dAdd_str, dAdd_tup, dAdd_ref, dSub_int, dLt_int, dLe_int, dGt_int, dGe_int, dMul_int, dMul_str, dMul_ref, dMod_int, dFdiv_int, dPow_int, dIsN_, dNotN_, isNon_int, isNon_non, dEq_str, dEq_int, dNe_str, dNe_int, dIn_sign, dIx_str, dIx_tup, dIx_scr, dIx_ref, dCut_str, dCut_tup, dCut_scr, dCut_ref, bLen_str, bLen_tup, bLen_ref, bInt_int, bInt_bl, bTup_tup, bTup_ref, bList_str, bList_tup, bList_ref, tyD_str, mAppend_ref, mExtend_ref, tyL, dSetL_ref, mJoin_ref, bMin_ref, bMax_ref, atI_0, atI_1, atI_2]
  refine ⟨rfl, M, some 0, w, rfl, ok, (fun a z => by cases z; exact ok.r1), hw, hz, ?_⟩
  exact ⟨.tup (natsD M.E), atI_2, dIn_ends (fgt_here q)⟩
def sp__law_any_path : SpD := fun ds h Q _ => ∃ (M : Mch) (p : Addr) (n : Nat), ds = [.ref p, mchD M, .int (n : Nat)] ∧ M.ok ∧ n ≤ 200 ∧ Pen h p 999000 ∧ ∀ w g, (∀ c ∈ w, c ∈ M.L) → w.length ≤ n → Moved h p n g → Q (.str w) g
/-- _law_any_path(pen, machine, many); slots: pen 0, machine 1, many 2, turn 3, word 4, state 5, some 6, c 7 -/
def N__law_any_path : List Str := ["pen", "machine", "many", "turn", "word", "state", "some", "c"]
def m__law_any_path : MS := dSeq (dAsg (dTup (dCons (dC (.str [])) (dCons (dC (.int 0)) (dNil)))) (dgTup 2 (dgCons (dName 4) (dgCons (dName 5) (dgNil))))) (dSeq (dFor (dIRng1 (dCons (dVar 2) (dNil))) (dName 3) (dSeq (dAsg (dLc (dISeq (dOp dIx (dVar 1) (dC (.int 0)))) (.nm 7) (dTest (dOp dNotN (dCall 3 sp__law_run (dCons (dVar 1) (dCons (dVar 5) (dCons (dVar 7) (dNil))))) (dC .non))) (dVar 7) [7]) (dName 6)) (dSeq (dIfS (dTest (dOp dEq (dVar 6) (dLst (dNil)))) (dRet (dVar 4)) (dNext)) (dSeq (dAsg (dCall 2 sp__law_one_of (dCons (dVar 0) (dCons (dVar 6) (dNil)))) (dName 7)) (dAsg (dTup (dCons (dOp dAdd (dVar 4) (dVar 7)) (dCons (dCall 3 sp__law_run (dCons (dVar 1) (dCons (dVar 5) (dCons (dVar 7) (dNil))))) (dNil)))) (dgTup 2 (dgCons (dName 4) (dgCons (dName 5) (dgNil))))))))) (dRet (dVar 4)))
theorem st__law_any_path (a0 a1 a2 : D) : startD N__law_any_path [a0, a1, a2] = [some a0, some a1, some a2, none, none, none, none, none] := rfl
theorem ok__law_any_path (ds : List D) (h : DHp) (Q : DK) (E : DX) (hn : ds.length = 3) (q : sp__law_any_path ds h Q E) : m__law_any_path (endsD Q E) (startD N__law_any_path ds) h := by
  have hs := sizeLine_eq
  obtain ⟨M, p, n, rfl, ok, n200, P, q⟩ := q
  have h3 := ok.l3
  simp only [m__law_any_path, st__law_any_path, forall_const, true_implies, false_implies, implies_true, and_true, true_and, reduceCtorEq, Bool.not_true, Bool.not_false, Bool.true_xor, Bool.false_xor, Option.some.injEq, exists_eq_left', put_same, onB_bl, dSeq, dNext, dBreak, dDrop, dRet, dRetN, dIfS, dName, dgNil, dgCons, dgTup, dAsg, dPar, dPar3, dSetI, dgSub, dRaise, dVar, dC, dOp, dTest, dAnd, dOr, dNot, dAndV, dOrV, dNotV, dIf, dNil, dCons, dTup, dLst, dCall, dCB, dMt, dMt0, dInC, dIxC, dChain, dNeg, dNoPart, dPart, dSl, exE, dIsA, dCat, catchD, subE, Ex.ix, endsD, dLc, dISeq, dIRng1, dIRng2, dIEnum, dFor, dDcT, dDcK, dCallV, mStarts_str, mIndex_str, mUpper_str, dSortSet, dListZip, dListRng, dDnew, dLc2, List.getElem?_cons_zero, List.getElem?_cons_succ, List.set_cons_zero, List.set_cons_succ, onL_lst, isA_non, isA_int_int, isA_bool_int, isA_str_int, isA_tup_int, isA_lst_int, isA_int_str, isA_bool_str, isA_str_str, isA_tup_str, isA_lst_str, isA_int_tup, isA_bool_tup, isA_str_tup, isA_tup_tup, isA_lst_tup, isA_int_bl, isA_bool_bl, isA_str_bl, isA_tup_bl, isA_lst_bl, dAdd_int, dAdd_str, dAdd_tup, dAdd_ref, dSub_int, dLt_int, dLe_int, dGt_int, dGe_int, dMul_int, dMul_str, dMul_ref, dMod_int, dFdiv_int, dPow_int, dIsN_, dNotN_, isNon_int, isNon_non, dEq_str, dEq_int, dNe_str, dNe_int, dIn_sign, dIx_str, dIx_tup, dIx_scr, dIx_ref, dCut_str, dCut_tup, dCut_scr, dCut_ref, bLen_str, bLen_tup, bLen_ref, bInt_int, bInt_bl, bTup_tup, bTup_ref, bList_str, bList_tup, bList_ref, tyD_str, mAppend_ref, mExtend_ref, tyL, dSetL_ref, mJoin_ref, bMin_ref, bMax_ref, atI_0, atI_1, atI_2]
  refine ⟨by show (2 : Nat) ≤ sizeLine; omega, rfl, ⟨by omega, by omega⟩, ?_⟩
  refine forB_inv (fun i δ h' => i ≤ n ∧ Mv h p i h' ∧ ∃ (w : Tx) (a : Nat) (s3 s6 s7 : Option D), δ = [some (.ref p), some (mchD M), some (.int (n : Nat)), s3, some (.str w), some (.int (a : Nat)), s6, s7] ∧ w.length = i ∧ (∀ c ∈ w, c ∈ M.L) ∧ a < M.R.length)
    ⟨Nat.zero_le _, mv_refl P, [], 0, _, _, _, rfl, rfl, (fun c hc => by cases hc), ok.r1⟩ (fun _ _ _ _ => True.intro) ?_ ?_
  · rintro δ h' ⟨_, Mo, w, a, s3, s6, s7, rfl, hl, hw, ha⟩
    rw [rngD_len] at hl Mo
    simp only [forall_const, true_implies, false_implies, implies_true, and_true, true_and, reduceCtorEq, Bool.not_true, Bool.not_false, Bool.true_xor, Bool.false_xor, Option.some.injEq, exists_eq_left', put_same, onB_bl, dSeq, dNext, dBreak, dDrop, dRet, dRetN, dIfS, dName, dgNil, dgCons, dgTup, dAsg, dPar, dPar3, dSetI, dgSub, dRaise, dVar, dC, dOp, dTest, dAnd, dOr, dNot, dAndV, dOrV, dNotV, dIf, dNil, dCons, dTup, dLst, dCall, dCB, dMt, dMt0, dInC, dIxC, dChain, dNeg, dNoPart, dPart, dSl, exE, dIsA, dCat, catchD, subE, Ex.ix, endsD, dLc, dISeq, dIRng1, dIRng2, dIEnum, dFor, dDcT, dDcK, dCallV, mStarts_str, mIndex_str, mUpper_str, dSortSet, dListZip, dListRng, dDnew, dLc2, List.getElem?_cons_zero, List.getElem?_cons_succ, List.set_cons_zero, List.set_cons_succ, onL_lst, isA_non, isA_int_int, isA_bool_int, isA_str_int, isA_tup_int, isA_lst_int, isA_int_str, isA_bool_str, isA_str_str, isA_tup_str, isA_lst_str, isA_int_tup, isA_bool_tup, isA_str_tup, isA_tup_tup, isA_lst_tup, isA_int_bl, isA_bool_bl, isA_str_bl, isA_tup_bl, isA_lst_bl, dAdd_int, dAdd_str, dAdd_tup, dAdd_ref, dSub_int, dLt_int, dLe_int, dGt_int, dGe_int, dMul_int, dMul_str, dMul_ref, dMod_int, dFdiv_int, dPow_int, dIsN_, dNotN_, isNon_int, isNon_non, dEq_str, dEq_int, dNe_str, dNe_int, dIn_sign, dIx_str, dIx_tup, dIx_scr, dIx_ref, dCut_str, dCut_tup, dCut_scr, dCut_ref, bLen_str, bLen_tup, bLen_ref, bInt_int, bInt_bl, bTup_tup, bTup_ref, bList_str, bList_tup, bList_ref, tyD_str, mAppend_ref, mExtend_ref, tyL, dSetL_ref, mJoin_ref, bMin_ref, bMax_ref, atI_0, atI_1, atI_2]
    exact mv_end (mv_le Mo (by omega)) fun g' M' => q w g' hw (by omega) M'
  · rintro i d δ g hd ⟨hi, Mo, w, a, s3, s6, s7, rfl, hl, hw, ha⟩
    obtain ⟨hin, rfl⟩ := rngD_get hd
    rw [Int.toNat_natCast] at hin
    simp only [forall_const, true_implies, false_implies, implies_true, and_true, true_and, reduceCtorEq, Bool.not_true, Bool.not_false, Bool.true_xor, Bool.false_xor, Option.some.injEq, exists_eq_left', put_same, onB_bl, dSeq, dNext, dBreak, dDrop, dRet, dRetN, dIfS, dName, dgNil, dgCons, dgTup, dAsg, dPar, dPar3, dSetI, dgSub, dRaise, dVar, dC, dOp, dTest, dAnd, dOr, dNot, dAndV, dOrV, dNotV, dIf, dNil, dCons, dTup, dLst, dCall, dCB, dMt, dMt0, dInC, dIxC, dChain, dNeg, dNoPart, dPart, dSl, exE, dIsA, dCat, catchD, subE, Ex.ix, endsD, dLc, dISeq, dIRng1, dIRng2, dIEnum, dFor, dDcT, dDcK, dCallV, mStarts_str, mIndex_str, mUpper_str, dSortSet, dListZip, dListRng, dDnew, dLc2, List.getElem?_cons_zero, List.getElem?_cons_succ, List.set_cons_zero, List.set_cons_succ, onL_lst, isA_non, isA_int_int, isA_bool_int, isA_str_int, isA_tup_int, isA_lst_int, isA_int_str, isA_bool_str, isA_str_str, isA_tup_str, isA_lst_str, isA_int_tup, isA_bool_tup, isA_str_tup, isA_tup_tup, isA_lst_tup, isA_int_bl, isA_bool_bl, isA_str_bl, isA_tup_bl, isA_lst_bl, dAdd_int, dAdd_str, dAdd_tup, dAdd_ref, dSub_int, dLt_int, dLe_int, dGt_int, dGe_int, dMul_int, dMul_str, dMul_ref, dMod_int, dFdiv_int, dPow_int, dIsN_, dNotN_, isNon_int, isNon_non, dEq_str, dEq_int, dNe_str, dNe_int, dIn_sign, dIx_str, dIx_tup, dIx_scr, dIx_ref, dCut_str, dCut_tup, dCut_scr, dCut_ref, bLen_str, bLen_tup, bLen_ref, bInt_int, bInt_bl, bTup_tup, bTup_ref, bList_str, bList_tup, bList_ref, tyD_str, mAppend_ref, mExtend_ref, tyL, dSetL_ref, mJoin_ref, bMin_ref, bMax_ref, atI_0, atI_1, atI_2]
    refine ⟨.str M.L, atI_0, ?_⟩
    refine lcB_filter (fun d => match d with | .str [c] => (M.step a c).isSome | _ => false) id True.intro (by rw [List.length_map]; omega) (fun d hd => ?_) fun u nu => ?_
    · obtain ⟨c, hc, rfl⟩ := List.mem_map.mp hd
      refine ⟨_, rfl, fun K k => ?_, fun _ K k => k⟩
      simp only [forall_const, true_implies, false_implies, implies_true, and_true, true_and, reduceCtorEq, Bool.not_true, Bool.not_false, Bool.true_xor, Bool.false_xor, Option.some.injEq, exists_eq_left', put_same, onB_bl, dSeq, dNext, dBreak, dDrop, dRet, dRetN, dIfS, dName, dgNil, dgCons, dgTup, dAsg, dPar, dPar3, dSetI, dgSub, dRaise, dVar, dC, dOp, dTest, dAnd, dOr, dNot, dAndV, dOrV, dNotV, dIf, dNil, dCons, dTup, dLst, dCall, dCB, dMt, dMt0, dInC, dIxC, dChain, dNeg, dNoPart, dPart, dSl, exE, dIsA, dCat, catchD, subE, Ex.ix, endsD, dLc, dISeq, dIRng1, dIRng2, dIEnum, dFor, dDcT, dDcK, dCallV, mStarts_str, mIndex_str, mUpper_str, dSortSet, dListZip, dListRng, dDnew, dLc2, List.getElem?_cons_zero, List.getElem?_cons_succ, List.set_cons_zero, List.set_cons_succ, onL_lst, isA_non, isA_int_int, isA_bool_int, isA_str_int, isA_tup_int, isA_lst_int, isA_int_str, isA_bool_str, isA_str_str, isA_tup_str, isA_lst_str, isA_int_tup, isA_bool_tup, isA_str_tup, isA_tup_tup, isA_lst_tup, isA_int_bl, isA_bool_bl, isA_str_bl, isA_tup_bl, isA_lst_bl, dAdd_int, dAdd_str, dAdd_tup, dAdd_ref, dSub_int, dLt_int, dLe_int, dGt_int, dGe_int, dMul_int, dMul_str, dMul_ref, dMod_int, dFdiv_int, dPow_int, dIsN_, dNotN_, isNon_int, isNon_non, dEq_str, dEq_int, dNe_str, dNe_int, dIn_sign, dIx_str, dIx_tup, dIx_scr, dIx_ref, dCut_str, dCut_tup, dCut_scr, dCut_ref, bLen_str, bLen_tup, bLen_ref, bInt_int, bInt_bl, bTup_tup, bTup_ref, bList_str, bList_tup, bList_ref, tyD_str, mAppend_ref, mExtend_ref, tyL, dSetL_ref, mJoin_ref, bMin_ref, bMax_ref, atI_0, atI_1, atI_2, dwipe]
      refine ⟨rfl, M, some a, [c], rfl, ok, (fun b z => by cases z; exact ha), by simpa using hc, by simp, ?_⟩
      rw [run_one]
      have e : (!isNon (optD (M.step a c))) = (M.step a c).isSome := by cases M.step a c <;> rfl
      show K (!isNon (optD (M.step a c))) g
      rw [e]
      exact k
    · have ew : ((M.L.map fun c => D.str [c]).filter fun d => (match d with | .str [c] => (M.step a c).isSome | _ => false)).map id = ((M.L.filter fun c => (M.step a c).isSome).map fun c => [c]).map D.str := by
        rw [List.map_id]
        induction M.L with
        | nil => rfl
        | cons c l ih =>
          rw [List.map_cons]
          by_cases z : (M.step a c).isSome = true
          · rw [List.filter_cons_of_pos (by simpa using z), List.filter_cons_of_pos (by simpa using z), ih]; rfl
          · rw [List.filter_cons_of_neg (by simpa using z), List.filter_cons_of_neg (by simpa using z), ih]
      rw [ew]
      try simp only [forall_const, true_implies, false_implies, implies_true, and_true, true_and, reduceCtorEq, Bool.not_true, Bool.not_false, Bool.true_xor, Bool.false_xor, Option.some.injEq, exists_eq_left', put_same, onB_bl, dSeq, dNext, dBreak, dDrop, dRet, dRetN, dIfS, dName, dgNil, dgCons, dgTup, dAsg, dPar, dPar3, dSetI, dgSub, dRaise, dVar, dC, dOp, dTest, dAnd, dOr, dNot, dAndV, dOrV, dNotV, dIf, dNil, dCons, dTup, dLst, dCall, dCB, dMt, dMt0, dInC, dIxC, dChain, dNeg, dNoPart, dPart, dSl, exE, dIsA, dCat, catchD, subE, Ex.ix, endsD, dLc, dISeq, dIRng1, dIRng2, dIEnum, dFor, dDcT, dDcK, dCallV, mStarts_str, mIndex_str, mUpper_str, dSortSet, dListZip, dListRng, dDnew, dLc2, List.getElem?_cons_zero, List.getElem?_cons_succ, List.set_cons_zero, List.set_cons_succ, onL_lst, isA_non, isA_int_int, isA_bool_int, isA_str_int, isA_tup_int, isA_lst_int, isA_int_str, isA_bool_str, isA_str_str, isA_tup_str, isA_lst_str, isA_int_tup, isA_bool_tup, isA_str_tup, isA_tup_tup, isA_lst_tup, isA_int_bl, isA_bool_bl, isA_str_bl, isA_tup_bl, isA_lst_bl, dAdd_int, dAdd_str, dAdd_tup, dAdd_ref, dSub_int, dLt_int, dLe_int, dGt_int, dGe_int, dMul_int, dMul_str, dMul_ref, dMod_int, dFdiv_int, dPow_int, dIsN_, dNotN_, isNon_int, isNon_non, dEq_str, dEq_int, dNe_str, dNe_int, dIn_sign, dIx_str, dIx_tup, dIx_scr, dIx_ref, dCut_str, dCut_tup, dCut_scr, dCut_ref, bLen_str, bLen_tup, bLen_ref, bInt_int, bInt_bl, bTup_tup, bTup_ref, bList_str, bList_tup, bList_ref, tyD_str, mAppend_ref, mExtend_ref, tyL, dSetL_ref, mJoin_ref, bMin_ref, bMax_ref, atI_0, atI_1, atI_2]
      refine ⟨by show (0 : Nat) ≤ sizeLine; omega, fun u2 nu2 => ?_⟩
      have eu := put_old (o := .lst []) (put_same (h := g) (a := u) (o := .lst (((M.L.filter fun c => (M.step a c).isSome).map fun c => [c]).map D.str))) nu2
      have okw : ∀ w ∈ (M.L.filter fun c => (M.step a c).isSome).map fun c => [c], okTx w := by
        intro w hw
        obtain ⟨c, hc, rfl⟩ := List.mem_map.mp hw
        exact okTx_L ok fun x hx => by simp at hx; subst hx; exact (List.mem_filter.mp hc).1
      refine dEq_strs (vs := []) eu put_same okw (by simp) ?_
      simp only [onB_bl]
      have M2 := mv_new (o := .lst []) (mv_new (o := .lst (((M.L.filter fun c => (M.step a c).isSome).map fun c => [c]).map D.str)) Mo nu) nu2
      have P2 := mv_pen P M2
      have eu2 : u ≠ p := fun z => (pen_new (mv_pen P Mo) nu) z.symm
      refine ⟨fun z => ?_, fun z => ?_⟩
      · exact mv_end (mv_le M2 (by omega)) fun g' M' => q w g' hw (by omega) M'
      · have hne : (M.L.filter fun c => (M.step a c).isSome).map (fun c => [c]) ≠ [] := by simpa using z
        refine ⟨rfl, eu2, _, eu, pen_le P2 (by omega), by simpa using hne, by rw [List.length_map, List.length_map]; have := List.length_filter_le (fun c => (M.step a c).isSome) M.L; omega, fun d g' hd Mm => ?_⟩
        obtain ⟨x, hx, rfl⟩ := List.mem_map.mp hd
        obtain ⟨c, hc, rfl⟩ := List.mem_map.mp hx
        rw [List.mem_filter] at hc
        obtain ⟨b, hb⟩ := Option.isSome_iff_exists.mp hc.2
        simp only [forall_const, true_implies, false_implies, implies_true, and_true, true_and, reduceCtorEq, Bool.not_true, Bool.not_false, Bool.true_xor, Bool.false_xor, Option.some.injEq, exists_eq_left', put_same, onB_bl, dSeq, dNext, dBreak, dDrop, dRet, dRetN, dIfS, dName, dgNil, dgCons, dgTup, dAsg, dPar, dPar3, dSetI, dgSub, dRaise, dVar, dC, dOp, dTest, dAnd, dOr, dNot, dAndV, dOrV, dNotV, dIf, dNil, dCons, dTup, dLst, dCall, dCB, dMt, dMt0, dInC, dIxC, dChain, dNeg, dNoPart, dPart, dSl, exE, dIsA, dCat, catchD, subE, Ex.ix, endsD, dLc, dISeq, dIRng1, dIRng2, dIEnum, dFor, dDcT, dDcK, dCallV, mStarts_str, mIndex_str, mUpper_str, dSortSet, dListZip, dListRng, dDnew, dLc2, List.getElem?_cons_zero, List.getElem?_cons_succ, List.set_cons_zero, List.set_cons_succ, onL_lst, isA_non, isA_int_int, isA_bool_int, isA_str_int, isA_tup_int, isA_lst_int, isA_int_str, isA_bool_str, isA_str_str, isA_tup_str, isA_lst_str, isA_int_tup, isA_bool_tup, isA_str_tup, isA_tup_tup, isA_lst_tup, isA_int_bl, isA_bool_bl, isA_str_bl, isA_tup_bl, isA_lst_bl, dAdd_int, dAdd_str, dAdd_tup, dAdd_ref, dSub_int, dLt_int, dLe_int, dGt_int, dGe_int, dMul_int, dMul_str, dMul_ref, dMod_int, dFdiv_int, dPow_int, dIsN_, dNotN_, isNon_int, isNon_non, dEq_str, dEq_int, dNe_str, dNe_int, dIn_sign, dIx_str, dIx_tup, dIx_scr, dIx_ref, dCut_str, dCut_tup, dCut_scr, dCut_ref, bLen_str, bLen_tup, bLen_ref, bInt_int, bInt_bl, bTup_tup, bTup_ref, bList_str, bList_tup, bList_ref, tyD_str, mAppend_ref, mExtend_ref, tyL, dSetL_ref, mJoin_ref, bMin_ref, bMax_ref, atI_0, atI_1, atI_2]
        refine ⟨by simp; omega, rfl, M, some a, [c], rfl, ok, (fun b z => by cases z; exact ha), by simpa using hc.1, by simp, ?_⟩
        rw [run_one, hb]
        refine ⟨by show (2 : Nat) ≤ sizeLine; omega, rfl, hin, mv_le (mv_moved M2 Mm) (by omega), w ++ [c], b, _, _, _, rfl, by simp [hl], ?_, step_lt ok ha hb⟩
        intro x hx
        rcases List.mem_append.mp hx with z | z
        · exact hw x z
        · simp at z; subst z; exact hc.1
/-! ### the law's own first words -/
theorem pairs_map (v : D) : ∀ l : List Nat, (l.map fun (e : Nat) => D.tup [.int (e : Nat), v]).mapM pairOf = some ((kN l).map fun k => (k, v))
  | [] => rfl
  | e :: l => by
    rw [List.map_cons, List.mapM_cons, pairs_map v l]
    rfl
theorem keys_one {kvs : List (KeyD × D)} {f : Nat → Bool} {v : D} {i : Nat} (k : Keys kvs f) : Keys (putC kvs (.inl (i : Int)) v) (fun q => f q || decide (q = i)) := by
  intro j
  rw [valC_put]
  by_cases z : (Sum.inl (i : Int) : KeyD) = .inl j
  · rw [if_pos z]
    have z : (i : Int) = j := by simpa using z
    have h0 : 0 ≤ j := by omega
    have h1 : j.toNat = i := by omega
    simp [h0, h1]
  · rw [if_neg z, k]
    have z : ¬ (i : Int) = j := fun y => z (by rw [y])
    by_cases h0 : 0 ≤ j
    · have h1 : j.toNat ≠ i := by omega
      simp [h0, h1]
    · simp [h0]
def sp__law_firsts : SpD := fun ds h Q _ => ∃ (M : Mch) (n : Nat), ds = [mchD M, .int (n : Nat)] ∧ M.ok ∧ n ≤ 40 ∧ ∀ r, h r = none → Q (.ref r) (put h r (.lst ((M.firsts n).map D.str)))
/-- _law_firsts(machine, many); slots: machine 0, many 1, alive 2, turn 3, level 4, found 5, longer 6, k 7, row 8, word 9, state 10, steps 11, end 12, c 13, after 14, step 15 -/
def N__law_firsts : List Str := ["machine", "many", "alive", "turn", "level", "found", "longer", "k", "row", "word", "state", "steps", "end", "c", "after", "step"]
def m__law_firsts : MS := dSeq (dAsg (dCB bDict (dCons (dLc (dISeq (dOp dIx (dVar 0) (dC (.int 2)))) (.nm 12) (dYes) (dTup (dCons (dVar 12) (dCons (dC (.bl true)) (dNil)))) [12]) (dNil))) (dName 2)) (dSeq (dFor (dIRng1 (dCons (dC (.int 6)) (dNil))) (dName 3) (dFor (dIEnum (dCons (dOp dIx (dVar 0) (dC (.int 1))) (dNil))) (dgTup 2 (dgCons (dName 7) (dgCons (dName 8) (dgNil)))) (dIfS (dTest (dOp dNe (dLc (dISeq (dVar 8)) (.nm 14) (dTest (dOp (dIn false) (dVar 14) (dVar 2))) (dC (.int 1)) [14]) (dLst (dNil)))) (dSetI (dVar 2) (dVar 7) (dC (.bl true)) dSetK) (dNext)))) (dSeq (dPar 4 5 (dCons (dIf (dTest (dOp (dIn false) (dC (.int 0)) (dVar 2))) (dLst (dCons (dTup (dCons (dC (.str [])) (dCons (dC (.int 0)) (dNil)))) (dNil))) (dLst (dNil))) (dCons (dLst (dNil)) (dNil)))) (dSeq (dWhile (dAnd (dTest (dOp dNe (dVar 4) (dLst (dNil)))) (dTest (dOp dLt (dCB bLen (dCons (dVar 5) (dNil))) (dVar 1)))) (dSeq (dAsg (dOp dAdd (dVar 5) (dLc (dISeq (dVar 4)) (.tup [.nm 9, .nm 10]) (dTest (dOp (dIn false) (dVar 10) (dOp dIx (dVar 0) (dC (.int 2))))) (dVar 9) [9, 10])) (dName 5)) (dSeq (dAsg (dLst (dNil)) (dName 6)) (dSeq (dFor (dISeq (dVar 4)) (dgTup 2 (dgCons (dName 9) (dgCons (dName 10) (dgNil)))) (dSeq (dAsg (dLc (dISeq (dOp dIx (dVar 0) (dC (.int 0)))) (.nm 13) (dYes) (dTup (dCons (dOp dAdd (dVar 9) (dVar 13)) (dCons (dCall 3 sp__law_run (dCons (dVar 0) (dCons (dVar 10) (dCons (dVar 13) (dNil))))) (dNil)))) [13]) (dName 11)) (dDrop (dMt "list" mExtend (dVar 6) (dCons (dLc (dISeq (dVar 11)) (.nm 15) (dTest (dOp (dIn false) (dOp dIx (dVar 15) (dC (.int 1))) (dVar 2))) (dVar 15) [15]) (dNil)))))) (dAsg (dVar 6) (dName 4)))))) (dRet (dSl (dVar 5) (dNoPart) (dPart (dVar 1)))))))
theorem st__law_firsts (a0 a1 : D) : startD N__law_firsts [a0, a1] = [some a0, some a1, none, none, none, none, none, none, none, none, none, none, none, none, none, none] := rfl
def t__law_firsts_1 : MS := dSeq (dFor (dIRng1 (dCons (dC (.int 6)) (dNil))) (dName 3) (dFor (dIEnum (dCons (dOp dIx (dVar 0) (dC (.int 1))) (dNil))) (dgTup 2 (dgCons (dName 7) (dgCons (dName 8) (dgNil)))) (dIfS (dTest (dOp dNe (dLc (dISeq (dVar 8)) (.nm 14) (dTest (dOp (dIn false) (dVar 14) (dVar 2))) (dC (.int 1)) [14]) (dLst (dNil)))) (dSetI (dVar 2) (dVar 7) (dC (.bl true)) dSetK) (dNext)))) (dSeq (dPar 4 5 (dCons (dIf (dTest (dOp (dIn false) (dC (.int 0)) (dVar 2))) (dLst (dCons (dTup (dCons (dC (.str [])) (dCons (dC (.int 0)) (dNil)))) (dNil))) (dLst (dNil))) (dCons (dLst (dNil)) (dNil)))) (dSeq (dWhile (dAnd (dTest (dOp dNe (dVar 4) (dLst (dNil)))) (dTest (dOp dLt (dCB bLen (dCons (dVar 5) (dNil))) (dVar 1)))) (dSeq (dAsg (dOp dAdd (dVar 5) (dLc (dISeq (dVar 4)) (.tup [.nm 9, .nm 10]) (dTest (dOp (dIn false) (dVar 10) (dOp dIx (dVar 0) (dC (.int 2))))) (dVar 9) [9, 10])) (dName 5)) (dSeq (dAsg (dLst (dNil)) (dName 6)) (dSeq (dFor (dISeq (dVar 4)) (dgTup 2 (dgCons (dName 9) (dgCons (dName 10) (dgNil)))) (dSeq (dAsg (dLc (dISeq (dOp dIx (dVar 0) (dC (.int 0)))) (.nm 13) (dYes) (dTup (dCons (dOp dAdd (dVar 9) (dVar 13)) (dCons (dCall 3 sp__law_run (dCons (dVar 0) (dCons (dVar 10) (dCons (dVar 13) (dNil))))) (dNil)))) [13]) (dName 11)) (dDrop (dMt "list" mExtend (dVar 6) (dCons (dLc (dISeq (dVar 11)) (.nm 15) (dTest (dOp (dIn false) (dOp dIx (dVar 15) (dC (.int 1))) (dVar 2))) (dVar 15) [15]) (dNil)))))) (dAsg (dVar 6) (dName 4)))))) (dRet (dSl (dVar 5) (dNoPart) (dPart (dVar 1))))))
def t__law_firsts_2 : MS := dSeq (dPar 4 5 (dCons (dIf (dTest (dOp (dIn false) (dC (.int 0)) (dVar 2))) (dLst (dCons (dTup (dCons (dC (.str [])) (dCons (dC (.int 0)) (dNil)))) (dNil))) (dLst (dNil))) (dCons (dLst (dNil)) (dNil)))) (dSeq (dWhile (dAnd (dTest (dOp dNe (dVar 4) (dLst (dNil)))) (dTest (dOp dLt (dCB bLen (dCons (dVar 5) (dNil))) (dVar 1)))) (dSeq (dAsg (dOp dAdd (dVar 5) (dLc (dISeq (dVar 4)) (.tup [.nm 9, .nm 10]) (dTest (dOp (dIn false) (dVar 10) (dOp dIx (dVar 0) (dC (.int 2))))) (dVar 9) [9, 10])) (dName 5)) (dSeq (dAsg (dLst (dNil)) (dName 6)) (dSeq (dFor (dISeq (dVar 4)) (dgTup 2 (dgCons (dName 9) (dgCons (dName 10) (dgNil)))) (dSeq (dAsg (dLc (dISeq (dOp dIx (dVar 0) (dC (.int 0)))) (.nm 13) (dYes) (dTup (dCons (dOp dAdd (dVar 9) (dVar 13)) (dCons (dCall 3 sp__law_run (dCons (dVar 0) (dCons (dVar 10) (dCons (dVar 13) (dNil))))) (dNil)))) [13]) (dName 11)) (dDrop (dMt "list" mExtend (dVar 6) (dCons (dLc (dISeq (dVar 11)) (.nm 15) (dTest (dOp (dIn false) (dOp dIx (dVar 15) (dC (.int 1))) (dVar 2))) (dVar 15) [15]) (dNil)))))) (dAsg (dVar 6) (dName 4)))))) (dRet (dSl (dVar 5) (dNoPart) (dPart (dVar 1)))))
def t__law_firsts_3 : MS := dSeq (dWhile (dAnd (dTest (dOp dNe (dVar 4) (dLst (dNil)))) (dTest (dOp dLt (dCB bLen (dCons (dVar 5) (dNil))) (dVar 1)))) (dSeq (dAsg (dOp dAdd (dVar 5) (dLc (dISeq (dVar 4)) (.tup [.nm 9, .nm 10]) (dTest (dOp (dIn false) (dVar 10) (dOp dIx (dVar 0) (dC (.int 2))))) (dVar 9) [9, 10])) (dName 5)) (dSeq (dAsg (dLst (dNil)) (dName 6)) (dSeq (dFor (dISeq (dVar 4)) (dgTup 2 (dgCons (dName 9) (dgCons (dName 10) (dgNil)))) (dSeq (dAsg (dLc (dISeq (dOp dIx (dVar 0) (dC (.int 0)))) (.nm 13) (dYes) (dTup (dCons (dOp dAdd (dVar 9) (dVar 13)) (dCons (dCall 3 sp__law_run (dCons (dVar 0) (dCons (dVar 10) (dCons (dVar 13) (dNil))))) (dNil)))) [13]) (dName 11)) (dDrop (dMt "list" mExtend (dVar 6) (dCons (dLc (dISeq (dVar 11)) (.nm 15) (dTest (dOp (dIn false) (dOp dIx (dVar 15) (dC (.int 1))) (dVar 2))) (dVar 15) [15]) (dNil)))))) (dAsg (dVar 6) (dName 4)))))) (dRet (dSl (dVar 5) (dNoPart) (dPart (dVar 1))))
def t__law_firsts_4 : MS := dRet (dSl (dVar 5) (dNoPart) (dPart (dVar 1)))
theorem end_law_firsts {M : Mch} {n : Nat} (ok : M.ok) (n40 : n ≤ 40) {Q : DK} {h g : DHp} {pl pa pf : Addr} {kvs : List (KeyD × D)} (DD : DEnds) (hrt : DD.rt = Fgt Q) (l : Less h g) (lf : pl ≠ pf)
    (el : g pl = some (.lst (lvD (M.lev 0)))) (ea : g pa = some (.dct kvs)) (ef : g pf = some (.lst [])) (hk : Keys kvs M.live) (q : ∀ r, h r = none → Q (.ref r) (put h r (.lst ((M.firsts n).map D.str)))) (s3 s6 s7 s8 s9 s10 s11 s12 s13 s14 s15 : Option D) :
    t__law_firsts_3 DD [some (mchD M), some (.int (n : Nat)), some (.ref pa), s3, some (.ref pl), some (.ref pf), s6, s7, s8, s9, s10, s11, s12, s13, s14, s15] g := by
  have hs := sizeLine_eq
  simp only [t__law_firsts_3, forall_const, true_implies, false_implies, implies_true, and_true, true_and, reduceCtorEq, Bool.not_true, Bool.not_false, Bool.true_xor, Bool.false_xor, Option.some.injEq, exists_eq_left', put_same, onB_bl, dSeq, dNext, dBreak, dDrop, dRet, dRetN, dIfS, dName, dgNil, dgCons, dgTup, dAsg, dPar, dPar3, dSetI, dgSub, dRaise, dVar, dC, dOp, dTest, dAnd, dOr, dNot, dAndV, dOrV, dNotV, dIf, dNil, dCons, dTup, dLst, dCall, dCB, dMt, dMt0, dInC, dIxC, dChain, dNeg, dNoPart, dPart, dSl, exE, dIsA, dCat, catchD, subE, Ex.ix, endsD, dLc, dISeq, dIRng1, dIRng2, dIEnum, dFor, dDcT, dDcK, dCallV, mStarts_str, mIndex_str, mUpper_str, dSortSet, dListZip, dListRng, dDnew, dLc2, List.getElem?_cons_zero, List.getElem?_cons_succ, List.set_cons_zero, List.set_cons_succ, onL_lst, isA_non, isA_int_int, isA_bool_int, isA_str_int, isA_tup_int, isA_lst_int, isA_int_str, isA_bool_str, isA_str_str, isA_tup_str, isA_lst_str, isA_int_tup, isA_bool_tup, isA_str_tup, isA_tup_tup, isA_lst_tup, isA_int_bl, isA_bool_bl, isA_str_bl, isA_tup_bl, isA_lst_bl, dAdd_int, dAdd_str, dAdd_tup, dAdd_ref, dSub_int, dLt_int, dLe_int, dGt_int, dGe_int, dMul_int, dMul_str, dMul_ref, dMod_int, dFdiv_int, dPow_int, dIsN_, dNotN_, isNon_int, isNon_non, dEq_str, dEq_int, dNe_str, dNe_int, dIn_sign, dIx_str, dIx_tup, dIx_scr, dIx_ref, dCut_str, dCut_tup, dCut_scr, dCut_ref, bLen_str, bLen_tup, bLen_ref, bInt_int, bInt_bl, bTup_tup, bTup_ref, bList_str, bList_tup, bList_ref, tyD_str, mAppend_ref, mExtend_ref, tyL, dSetL_ref, mJoin_ref, bMin_ref, bMax_ref, atI_0, atI_1, atI_2, dWhile, hrt]
  refine ⟨fun m δ g => ∃ (K : Nat) (pl pf : Addr) (s6 s9 s10 s11 : Option D), δ = [some (mchD M), some (.int (n : Nat)), some (.ref pa), s3, some (.ref pl), some (.ref pf), s6, s7, s8, s9, s10, s11, s12, s13, s14, s15] ∧ Less h g ∧ pl ≠ pf ∧ g pl = some (.lst (lvD (M.lev K))) ∧ g pa = some (.dct kvs) ∧ g pf = some (.lst ((M.fw K).map D.str)) ∧ K ≤ 295 ∧ m = 300 - K,
    ⟨_, 0, pl, pf, _, _, _, _, rfl, l, lf, el, ea, ef, by omega, rfl⟩, ?_⟩
  rintro m δ g ⟨K, pl, pf, s6, s9, s10, s11, rfl, l, lf, el, ea, ef, hK, rfl⟩
  simp only [forall_const, true_implies, false_implies, implies_true, and_true, true_and, reduceCtorEq, Bool.not_true, Bool.not_false, Bool.true_xor, Bool.false_xor, Option.some.injEq, exists_eq_left', put_same, onB_bl, dSeq, dNext, dBreak, dDrop, dRet, dRetN, dIfS, dName, dgNil, dgCons, dgTup, dAsg, dPar, dPar3, dSetI, dgSub, dRaise, dVar, dC, dOp, dTest, dAnd, dOr, dNot, dAndV, dOrV, dNotV, dIf, dNil, dCons, dTup, dLst, dCall, dCB, dMt, dMt0, dInC, dIxC, dChain, dNeg, dNoPart, dPart, dSl, exE, dIsA, dCat, catchD, subE, Ex.ix, endsD, dLc, dISeq, dIRng1, dIRng2, dIEnum, dFor, dDcT, dDcK, dCallV, mStarts_str, mIndex_str, mUpper_str, dSortSet, dListZip, dListRng, dDnew, dLc2, List.getElem?_cons_zero, List.getElem?_cons_succ, List.set_cons_zero, List.set_cons_succ, onL_lst, isA_non, isA_int_int, isA_bool_int, isA_str_int, isA_tup_int, isA_lst_int, isA_int_str, isA_bool_str, isA_str_str, isA_tup_str, isA_lst_str, isA_int_tup, isA_bool_tup, isA_str_tup, isA_tup_tup, isA_lst_tup, isA_int_bl, isA_bool_bl, isA_str_bl, isA_tup_bl, isA_lst_bl, dAdd_int, dAdd_str, dAdd_tup, dAdd_ref, dSub_int, dLt_int, dLe_int, dGt_int, dGe_int, dMul_int, dMul_str, dMul_ref, dMod_int, dFdiv_int, dPow_int, dIsN_, dNotN_, isNon_int, isNon_non, dEq_str, dEq_int, dNe_str, dNe_int, dIn_sign, dIx_str, dIx_tup, dIx_scr, dIx_ref, dCut_str, dCut_tup, dCut_scr, dCut_ref, bLen_str, bLen_tup, bLen_ref, bInt_int, bInt_bl, bTup_tup, bTup_ref, bList_str, bList_tup, bList_ref, tyD_str, mAppend_ref, mExtend_ref, tyL, dSetL_ref, mJoin_ref, bMin_ref, bMax_ref, atI_0, atI_1, atI_2]
  refine ⟨by show (0 : Nat) ≤ sizeLine; omega, fun p1 n1 => ?_⟩
  refine dNe_lv (lev_okTx ok) (put_old el n1) put_same ?_
  have ef1 := put_old (o := .lst []) ef n1
  have stop : (M.lev K = [] ∨ n ≤ (M.fw K).length) → ∀ u, put g p1 (.lst []) u = none → Fgt Q (.ref u) (put (put g p1 (.lst [])) u (.lst (cutD ((M.fw K).map D.str) none (some (n : Int))))) := fun z u nu => by
    have e : cutD ((M.fw K).map D.str) none (some (n : Int)) = (M.firsts n).map D.str := by
      rw [← firsts_at (by omega) z, List.map_take]
      unfold cutD
      rw [HT.sIx_none, HT.sIx_nat]
      simp [List.take_eq_take_iff]
    rw [e]
    exact fgt_new (less_new l n1) nu q
  simp only [onB_bl]
  refine ⟨fun hz => ?_, fun hz => ?_⟩
  · have hne : M.lev K ≠ [] := by simpa using hz
    simp only [forall_const, true_implies, false_implies, implies_true, and_true, true_and, reduceCtorEq, Bool.not_true, Bool.not_false, Bool.true_xor, Bool.false_xor, Option.some.injEq, exists_eq_left', put_same, onB_bl, dSeq, dNext, dBreak, dDrop, dRet, dRetN, dIfS, dName, dgNil, dgCons, dgTup, dAsg, dPar, dPar3, dSetI, dgSub, dRaise, dVar, dC, dOp, dTest, dAnd, dOr, dNot, dAndV, dOrV, dNotV, dIf, dNil, dCons, dTup, dLst, dCall, dCB, dMt, dMt0, dInC, dIxC, dChain, dNeg, dNoPart, dPart, dSl, exE, dIsA, dCat, catchD, subE, Ex.ix, endsD, dLc, dISeq, dIRng1, dIRng2, dIEnum, dFor, dDcT, dDcK, dCallV, mStarts_str, mIndex_str, mUpper_str, dSortSet, dListZip, dListRng, dDnew, dLc2, List.getElem?_cons_zero, List.getElem?_cons_succ, List.set_cons_zero, List.set_cons_succ, onL_lst, isA_non, isA_int_int, isA_bool_int, isA_str_int, isA_tup_int, isA_lst_int, isA_int_str, isA_bool_str, isA_str_str, isA_tup_str, isA_lst_str, isA_int_tup, isA_bool_tup, isA_str_tup, isA_tup_tup, isA_lst_tup, isA_int_bl, isA_bool_bl, isA_str_bl, isA_tup_bl, isA_lst_bl, dAdd_int, dAdd_str, dAdd_tup, dAdd_ref, dSub_int, dLt_int, dLe_int, dGt_int, dGe_int, dMul_int, dMul_str, dMul_ref, dMod_int, dFdiv_int, dPow_int, dIsN_, dNotN_, isNon_int, isNon_non, dEq_str, dEq_int, dNe_str, dNe_int, dIn_sign, dIx_str, dIx_tup, dIx_scr, dIx_ref, dCut_str, dCut_tup, dCut_scr, dCut_ref, bLen_str, bLen_tup, bLen_ref, bInt_int, bInt_bl, bTup_tup, bTup_ref, bList_str, bList_tup, bList_ref, tyD_str, mAppend_ref, mExtend_ref, tyL, dSetL_ref, mJoin_ref, bMin_ref, bMax_ref, atI_0, atI_1, atI_2, ef1]
    refine ⟨fun hlt => ?_, fun hlt => ?_⟩
    · have hlt : (M.fw K).length < n := by
        have := of_decide_eq_true hlt
        simp at this
        omega
      have hsm := lev_small ok n40 hlt
      have hrf := runs_few ok n40 hne hlt
      have el1 := put_old (o := .lst []) el n1
      simp only [el1]
      refine lcB_filter (fun d => match d with | .tup [_, .int q] => decide (q.toNat ∈ M.E) | _ => false) (fun d => match d with | .tup (w :: _) => w | _ => .non) el1 (by simp [lvD]; omega) (fun d hd => ?_) fun r nr => ?_
      · obtain ⟨p, hp, rfl⟩ := List.mem_map.mp hd
        refine ⟨_, rfl, fun K2 k => ?_, fun _ K2 k => k⟩
        simp only [forall_const, true_implies, false_implies, implies_true, and_true, true_and, reduceCtorEq, Bool.not_true, Bool.not_false, Bool.true_xor, Bool.false_xor, Option.some.injEq, exists_eq_left', put_same, onB_bl, dSeq, dNext, dBreak, dDrop, dRet, dRetN, dIfS, dName, dgNil, dgCons, dgTup, dAsg, dPar, dPar3, dSetI, dgSub, dRaise, dVar, dC, dOp, dTest, dAnd, dOr, dNot, dAndV, dOrV, dNotV, dIf, dNil, dCons, dTup, dLst, dCall, dCB, dMt, dMt0, dInC, dIxC, dChain, dNeg, dNoPart, dPart, dSl, exE, dIsA, dCat, catchD, subE, Ex.ix, endsD, dLc, dISeq, dIRng1, dIRng2, dIEnum, dFor, dDcT, dDcK, dCallV, mStarts_str, mIndex_str, mUpper_str, dSortSet, dListZip, dListRng, dDnew, dLc2, List.getElem?_cons_zero, List.getElem?_cons_succ, List.set_cons_zero, List.set_cons_succ, onL_lst, isA_non, isA_int_int, isA_bool_int, isA_str_int, isA_tup_int, isA_lst_int, isA_int_str, isA_bool_str, isA_str_str, isA_tup_str, isA_lst_str, isA_int_tup, isA_bool_tup, isA_str_tup, isA_tup_tup, isA_lst_tup, isA_int_bl, isA_bool_bl, isA_str_bl, isA_tup_bl, isA_lst_bl, dAdd_int, dAdd_str, dAdd_tup, dAdd_ref, dSub_int, dLt_int, dLe_int, dGt_int, dGe_int, dMul_int, dMul_str, dMul_ref, dMod_int, dFdiv_int, dPow_int, dIsN_, dNotN_, isNon_int, isNon_non, dEq_str, dEq_int, dNe_str, dNe_int, dIn_sign, dIx_str, dIx_tup, dIx_scr, dIx_ref, dCut_str, dCut_tup, dCut_scr, dCut_ref, bLen_str, bLen_tup, bLen_ref, bInt_int, bInt_bl, bTup_tup, bTup_ref, bList_str, bList_tup, bList_ref, tyD_str, mAppend_ref, mExtend_ref, tyL, dSetL_ref, mJoin_ref, bMin_ref, bMax_ref, atI_0, atI_1, atI_2, dwipe]
        refine ⟨.tup (natsD M.E), atI_2, dIn_ends (o := some p.2) ?_⟩
        simpa [Mch.fin, onB_bl] using k
      · have ew : ((lvD (M.lev K)).filter fun d => (match d with | .tup [_, .int q] => decide (q.toNat ∈ M.E) | _ => false)).map (fun d => (match d with | .tup (w :: _) => w | _ => D.non)) = (M.fw1 (M.lev K)).map D.str :=
          fw1_lv (fun w q => by simp) (fun w d => rfl) _
        rw [ew]
        have ef2 := put_old (o := .lst ((M.fw1 (M.lev K)).map D.str)) ef1 nr
        have el2 := put_old (o := .lst ((M.fw1 (M.lev K)).map D.str)) el1 nr
        have ea2 := put_old (o := .lst ((M.fw1 (M.lev K)).map D.str)) (put_old (o := .lst []) ea n1) nr
        have lG : Less h (put (put g p1 (.lst [])) r (.lst ((M.fw1 (M.lev K)).map D.str))) := less_new (less_new l n1) nr
        have hfl := fw1_len (M := M) (M.lev K)
        simp only [dAdd_ref, ef2, put_same, onL_lst]
        refine ⟨by rw [List.length_map, List.length_map]; omega, fun pf2 npf2 => ?_⟩
        have eapp : (M.fw K).map D.str ++ (M.fw1 (M.lev K)).map D.str = (M.fw (K + 1)).map D.str := by
          show _ = (M.fw K ++ M.fw1 (M.lev K)).map D.str
          rw [List.map_append]
        rw [eapp]
        have el3 := put_old (o := .lst ((M.fw (K + 1)).map D.str)) el2 npf2
        have ea3 := put_old (o := .lst ((M.fw (K + 1)).map D.str)) ea2 npf2
        have ef3 : put (put (put g p1 (.lst [])) r (.lst ((M.fw1 (M.lev K)).map D.str))) pf2 (.lst ((M.fw (K + 1)).map D.str)) pf2 = some (.lst ((M.fw (K + 1)).map D.str)) := put_same
        have lG := less_new (o := .lst ((M.fw (K + 1)).map D.str)) lG npf2
        generalize put (put (put g p1 (.lst [])) r (.lst ((M.fw1 (M.lev K)).map D.str))) pf2 (.lst ((M.fw (K + 1)).map D.str)) = G at lG el3 ea3 ef3
        refine ⟨by show (0 : Nat) ≤ sizeLine; omega, fun pw npw => ?_⟩
        have pwl : pw ≠ pl := fun z => by subst z; rw [el3] at npw; cases npw
        have pwa : pw ≠ pa := fun z => by subst z; rw [ea3] at npw; cases npw
        have pwf : pw ≠ pf2 := fun z => by subst z; rw [ef3] at npw; cases npw
        have hw0 : h pw = none := less_none lG npw
        simp only [put_old (o := .lst []) el3 npw]
        refine forB_inv (fun i δ h' => (∃ s9 s10 s11, δ = [some (mchD M), some (.int (n : Nat)), some (.ref pa), s3, some (.ref pl), some (.ref pf2), some (.ref pw), s7, s8, s9, s10, s11, s12, s13, s14, s15]) ∧ Less h h' ∧ i ≤ (M.lev K).length ∧ h' pl = some (.lst (lvD (M.lev K))) ∧ h' pa = some (.dct kvs) ∧ h' pf2 = some (.lst ((M.fw (K + 1)).map D.str)) ∧ h' pw = some (.lst (lvD (((M.lev K).take i).flatMap M.nxt))))
          ⟨⟨_, _, _, rfl⟩, less_new lG npw, Nat.zero_le _, put_old el3 npw, put_old ea3 npw, put_old ef3 npw, put_same⟩ (fun _ _ _ v => v.2.2.2.1) ?_ ?_
        · rintro δ h' ⟨⟨s9, s10, s11, rfl⟩, l', _, e1, e2, e3, e4⟩
          have e : (lvD (M.lev K)).length = (M.lev K).length := by simp [lvD]
          rw [e, List.take_length] at e4
          simp only [forall_const, true_implies, false_implies, implies_true, and_true, true_and, reduceCtorEq, Bool.not_true, Bool.not_false, Bool.true_xor, Bool.false_xor, Option.some.injEq, exists_eq_left', put_same, onB_bl, dSeq, dNext, dBreak, dDrop, dRet, dRetN, dIfS, dName, dgNil, dgCons, dgTup, dAsg, dPar, dPar3, dSetI, dgSub, dRaise, dVar, dC, dOp, dTest, dAnd, dOr, dNot, dAndV, dOrV, dNotV, dIf, dNil, dCons, dTup, dLst, dCall, dCB, dMt, dMt0, dInC, dIxC, dChain, dNeg, dNoPart, dPart, dSl, exE, dIsA, dCat, catchD, subE, Ex.ix, endsD, dLc, dISeq, dIRng1, dIRng2, dIEnum, dFor, dDcT, dDcK, dCallV, mStarts_str, mIndex_str, mUpper_str, dSortSet, dListZip, dListRng, dDnew, dLc2, List.getElem?_cons_zero, List.getElem?_cons_succ, List.set_cons_zero, List.set_cons_succ, onL_lst, isA_non, isA_int_int, isA_bool_int, isA_str_int, isA_tup_int, isA_lst_int, isA_int_str, isA_bool_str, isA_str_str, isA_tup_str, isA_lst_str, isA_int_tup, isA_bool_tup, isA_str_tup, isA_tup_tup, isA_lst_tup, isA_int_bl, isA_bool_bl, isA_str_bl, isA_tup_bl, isA_lst_bl, dAdd_int, dAdd_str, dAdd_tup, dAdd_ref, dSub_int, dLt_int, dLe_int, dGt_int, dGe_int, dMul_int, dMul_str, dMul_ref, dMod_int, dFdiv_int, dPow_int, dIsN_, dNotN_, isNon_int, isNon_non, dEq_str, dEq_int, dNe_str, dNe_int, dIn_sign, dIx_str, dIx_tup, dIx_scr, dIx_ref, dCut_str, dCut_tup, dCut_scr, dCut_ref, bLen_str, bLen_tup, bLen_ref, bInt_int, bInt_bl, bTup_tup, bTup_ref, bList_str, bList_tup, bList_ref, tyD_str, mAppend_ref, mExtend_ref, tyL, dSetL_ref, mJoin_ref, bMin_ref, bMax_ref, atI_0, atI_1, atI_2]
          exact ⟨300 - (K + 1), by omega, K + 1, pw, pf2, _, _, _, _, rfl, l', pwf, e4, e2, e3, by omega, rfl⟩
        · rintro i d δ h' hd ⟨⟨s9, s10, s11, rfl⟩, l', hi, e1, e2, e3, e4⟩
          unfold lvD at hd
          rw [List.getElem?_map] at hd
          obtain ⟨p, hp, rfl⟩ := Option.map_eq_some_iff.mp hd
          obtain ⟨hlt2, hp'⟩ := List.getElem?_eq_some_iff.mp hp
          have hpm := lev_ok ok K p (List.mem_of_getElem? hp)
          have hq2 := live_lt ok hpm.1
          simp only [forall_const, true_implies, false_implies, implies_true, and_true, true_and, reduceCtorEq, Bool.not_true, Bool.not_false, Bool.true_xor, Bool.false_xor, Option.some.injEq, exists_eq_left', put_same, onB_bl, dSeq, dNext, dBreak, dDrop, dRet, dRetN, dIfS, dName, dgNil, dgCons, dgTup, dAsg, dPar, dPar3, dSetI, dgSub, dRaise, dVar, dC, dOp, dTest, dAnd, dOr, dNot, dAndV, dOrV, dNotV, dIf, dNil, dCons, dTup, dLst, dCall, dCB, dMt, dMt0, dInC, dIxC, dChain, dNeg, dNoPart, dPart, dSl, exE, dIsA, dCat, catchD, subE, Ex.ix, endsD, dLc, dISeq, dIRng1, dIRng2, dIEnum, dFor, dDcT, dDcK, dCallV, mStarts_str, mIndex_str, mUpper_str, dSortSet, dListZip, dListRng, dDnew, dLc2, List.getElem?_cons_zero, List.getElem?_cons_succ, List.set_cons_zero, List.set_cons_succ, onL_lst, isA_non, isA_int_int, isA_bool_int, isA_str_int, isA_tup_int, isA_lst_int, isA_int_str, isA_bool_str, isA_str_str, isA_tup_str, isA_lst_str, isA_int_tup, isA_bool_tup, isA_str_tup, isA_tup_tup, isA_lst_tup, isA_int_bl, isA_bool_bl, isA_str_bl, isA_tup_bl, isA_lst_bl, dAdd_int, dAdd_str, dAdd_tup, dAdd_ref, dSub_int, dLt_int, dLe_int, dGt_int, dGe_int, dMul_int, dMul_str, dMul_ref, dMod_int, dFdiv_int, dPow_int, dIsN_, dNotN_, isNon_int, isNon_non, dEq_str, dEq_int, dNe_str, dNe_int, dIn_sign, dIx_str, dIx_tup, dIx_scr, dIx_ref, dCut_str, dCut_tup, dCut_scr, dCut_ref, bLen_str, bLen_tup, bLen_ref, bInt_int, bInt_bl, bTup_tup, bTup_ref, bList_str, bList_tup, bList_ref, tyD_str, mAppend_ref, mExtend_ref, tyL, dSetL_ref, mJoin_ref, bMin_ref, bMax_ref, atI_0, atI_1, atI_2]
          refine ⟨rfl, .str M.L, atI_0, ?_⟩
          have h3 := ok.l3
          refine lcB_map (fun d => match d with | .str [c] => .tup [.str (p.1 ++ [c]), optD (M.step p.2 c)] | _ => .non) True.intro (by rw [List.length_map]; omega) (fun d hd => ?_) fun u nu => ?_
          · obtain ⟨c, hc, rfl⟩ := List.mem_map.mp hd
            refine ⟨_, rfl, fun K2 k => ?_⟩
            simp only [forall_const, true_implies, false_implies, implies_true, and_true, true_and, reduceCtorEq, Bool.not_true, Bool.not_false, Bool.true_xor, Bool.false_xor, Option.some.injEq, exists_eq_left', put_same, onB_bl, dSeq, dNext, dBreak, dDrop, dRet, dRetN, dIfS, dName, dgNil, dgCons, dgTup, dAsg, dPar, dPar3, dSetI, dgSub, dRaise, dVar, dC, dOp, dTest, dAnd, dOr, dNot, dAndV, dOrV, dNotV, dIf, dNil, dCons, dTup, dLst, dCall, dCB, dMt, dMt0, dInC, dIxC, dChain, dNeg, dNoPart, dPart, dSl, exE, dIsA, dCat, catchD, subE, Ex.ix, endsD, dLc, dISeq, dIRng1, dIRng2, dIEnum, dFor, dDcT, dDcK, dCallV, mStarts_str, mIndex_str, mUpper_str, dSortSet, dListZip, dListRng, dDnew, dLc2, List.getElem?_cons_zero, List.getElem?_cons_succ, List.set_cons_zero, List.set_cons_succ, onL_lst, isA_non, isA_int_int, isA_bool_int, isA_str_int, isA_tup_int, isA_lst_int, isA_int_str, isA_bool_str, isA_str_str, isA_tup_str, isA_lst_str, isA_int_tup, isA_bool_tup, isA_str_tup, isA_tup_tup, isA_lst_tup, isA_int_bl, isA_bool_bl, isA_str_bl, isA_tup_bl, isA_lst_bl, dAdd_int, dAdd_str, dAdd_tup, dAdd_ref, dSub_int, dLt_int, dLe_int, dGt_int, dGe_int, dMul_int, dMul_str, dMul_ref, dMod_int, dFdiv_int, dPow_int, dIsN_, dNotN_, isNon_int, isNon_non, dEq_str, dEq_int, dNe_str, dNe_int, dIn_sign, dIx_str, dIx_tup, dIx_scr, dIx_ref, dCut_str, dCut_tup, dCut_scr, dCut_ref, bLen_str, bLen_tup, bLen_ref, bInt_int, bInt_bl, bTup_tup, bTup_ref, bList_str, bList_tup, bList_ref, tyD_str, mAppend_ref, mExtend_ref, tyL, dSetL_ref, mJoin_ref, bMin_ref, bMax_ref, atI_0, atI_1, atI_2, dwipe]
            have := hpm.2.1
            refine ⟨by simp; omega, rfl, M, some p.2, [c], rfl, ok, (fun a z => by cases z; exact hq2), by simpa using hc, by simp, ?_⟩
            rw [run_one]
            exact ⟨by show (2 : Nat) ≤ sizeLine; omega, k⟩
          · have em : (M.L.map fun c => D.str [c]).map (fun d => (match d with | .str [c] => D.tup [.str (p.1 ++ [c]), optD (M.step p.2 c)] | _ => .non)) = M.L.map fun c => D.tup [.str (p.1 ++ [c]), optD (M.step p.2 c)] := by
              rw [List.map_map]; rfl
            rw [em]
            have e1u := put_old (o := .lst (M.L.map fun c => D.tup [.str (p.1 ++ [c]), optD (M.step p.2 c)])) e1 nu
            have e2u := put_old (o := .lst (M.L.map fun c => D.tup [.str (p.1 ++ [c]), optD (M.step p.2 c)])) e2 nu
            have e3u := put_old (o := .lst (M.L.map fun c => D.tup [.str (p.1 ++ [c]), optD (M.step p.2 c)])) e3 nu
            have e4u := put_old (o := .lst (M.L.map fun c => D.tup [.str (p.1 ++ [c]), optD (M.step p.2 c)])) e4 nu
            simp only [forall_const, true_implies, false_implies, implies_true, and_true, true_and, reduceCtorEq, Bool.not_true, Bool.not_false, Bool.true_xor, Bool.false_xor, Option.some.injEq, exists_eq_left', put_same, onB_bl, dSeq, dNext, dBreak, dDrop, dRet, dRetN, dIfS, dName, dgNil, dgCons, dgTup, dAsg, dPar, dPar3, dSetI, dgSub, dRaise, dVar, dC, dOp, dTest, dAnd, dOr, dNot, dAndV, dOrV, dNotV, dIf, dNil, dCons, dTup, dLst, dCall, dCB, dMt, dMt0, dInC, dIxC, dChain, dNeg, dNoPart, dPart, dSl, exE, dIsA, dCat, catchD, subE, Ex.ix, endsD, dLc, dISeq, dIRng1, dIRng2, dIEnum, dFor, dDcT, dDcK, dCallV, mStarts_str, mIndex_str, mUpper_str, dSortSet, dListZip, dListRng, dDnew, dLc2, List.getElem?_cons_zero, List.getElem?_cons_succ, List.set_cons_zero, List.set_cons_succ, onL_lst, isA_non, isA_int_int, isA_bool_int, isA_str_int, isA_tup_int, isA_lst_int, isA_int_str, isA_bool_str, isA_str_str, isA_tup_str, isA_lst_str, isA_int_tup, isA_bool_tup, isA_str_tup, isA_tup_tup, isA_lst_tup, isA_int_bl, isA_bool_bl, isA_str_bl, isA_tup_bl, isA_lst_bl, dAdd_int, dAdd_str, dAdd_tup, dAdd_ref, dSub_int, dLt_int, dLe_int, dGt_int, dGe_int, dMul_int, dMul_str, dMul_ref, dMod_int, dFdiv_int, dPow_int, dIsN_, dNotN_, isNon_int, isNon_non, dEq_str, dEq_int, dNe_str, dNe_int, dIn_sign, dIx_str, dIx_tup, dIx_scr, dIx_ref, dCut_str, dCut_tup, dCut_scr, dCut_ref, bLen_str, bLen_tup, bLen_ref, bInt_int, bInt_bl, bTup_tup, bTup_ref, bList_str, bList_tup, bList_ref, tyD_str, mAppend_ref, mExtend_ref, tyL, dSetL_ref, mJoin_ref, bMin_ref, bMax_ref, atI_0, atI_1, atI_2, e4u]
            refine lcB_filter (fun d => match d with | .tup [_, .int b] => M.live b.toNat | _ => false) id put_same (by rw [List.length_map]; omega) (fun d hd => ?_) fun u2 nu2 => ?_
            · obtain ⟨c, hc, rfl⟩ := List.mem_map.mp hd
              refine ⟨_, rfl, fun K2 k => ?_, fun _ K2 k => k⟩
              simp only [forall_const, true_implies, false_implies, implies_true, and_true, true_and, reduceCtorEq, Bool.not_true, Bool.not_false, Bool.true_xor, Bool.false_xor, Option.some.injEq, exists_eq_left', put_same, onB_bl, dSeq, dNext, dBreak, dDrop, dRet, dRetN, dIfS, dName, dgNil, dgCons, dgTup, dAsg, dPar, dPar3, dSetI, dgSub, dRaise, dVar, dC, dOp, dTest, dAnd, dOr, dNot, dAndV, dOrV, dNotV, dIf, dNil, dCons, dTup, dLst, dCall, dCB, dMt, dMt0, dInC, dIxC, dChain, dNeg, dNoPart, dPart, dSl, exE, dIsA, dCat, catchD, subE, Ex.ix, endsD, dLc, dISeq, dIRng1, dIRng2, dIEnum, dFor, dDcT, dDcK, dCallV, mStarts_str, mIndex_str, mUpper_str, dSortSet, dListZip, dListRng, dDnew, dLc2, List.getElem?_cons_zero, List.getElem?_cons_succ, List.set_cons_zero, List.set_cons_succ, onL_lst, isA_non, isA_int_int, isA_bool_int, isA_str_int, isA_tup_int, isA_lst_int, isA_int_str, isA_bool_str, isA_str_str, isA_tup_str, isA_lst_str, isA_int_tup, isA_bool_tup, isA_str_tup, isA_tup_tup, isA_lst_tup, isA_int_bl, isA_bool_bl, isA_str_bl, isA_tup_bl, isA_lst_bl, dAdd_int, dAdd_str, dAdd_tup, dAdd_ref, dSub_int, dLt_int, dLe_int, dGt_int, dGe_int, dMul_int, dMul_str, dMul_ref, dMod_int, dFdiv_int, dPow_int, dIsN_, dNotN_, isNon_int, isNon_non, dEq_str, dEq_int, dNe_str, dNe_int, dIn_sign, dIx_str, dIx_tup, dIx_scr, dIx_ref, dCut_str, dCut_tup, dCut_scr, dCut_ref, bLen_str, bLen_tup, bLen_ref, bInt_int, bInt_bl, bTup_tup, bTup_ref, bList_str, bList_tup, bList_ref, tyD_str, mAppend_ref, mExtend_ref, tyL, dSetL_ref, mJoin_ref, bMin_ref, bMax_ref, atI_0, atI_1, atI_2, dwipe]
              refine dIn_keysO e2u hk ?_
              cases es : M.step p.2 c with
              | none => rw [es] at k; exact k
              | some b => rw [es] at k; simpa [onB_bl, Mch.opt, optD] using k
            · have en : ((M.L.map fun c => D.tup [.str (p.1 ++ [c]), optD (M.step p.2 c)]).filter fun d => (match d with | .tup [_, .int b] => M.live b.toNat | _ => false)).map id = lvD (M.nxt p) := by
                rw [List.map_id, nxt_map ok p hq2]
                induction M.L with
                | nil => rfl
                | cons c L ih =>
                  rw [List.map_cons, List.map_cons]
                  cases es : M.step p.2 c with
                  | none =>
                    rw [List.filter_cons_of_neg (by simp [optD]), ih, List.filterMap_cons_none rfl]
                  | some b =>
                    by_cases z : M.live b = true
                    · rw [List.filter_cons_of_pos (by simpa [optD] using z), ih, List.filterMap_cons_some (b := (p.1 ++ [c], b)) (by simp [z])]
                      rfl
                    · rw [List.filter_cons_of_neg (by simpa [optD] using z), ih, List.filterMap_cons_none (by simp [z])]
              rw [en]
              have e1v := put_old (o := .lst (lvD (M.nxt p))) e1u nu2
              have e2v := put_old (o := .lst (lvD (M.nxt p))) e2u nu2
              have e3v := put_old (o := .lst (lvD (M.nxt p))) e3u nu2
              have e4v := put_old (o := .lst (lvD (M.nxt p))) e4u nu2
              simp only [mExtend_ref, e4v, put_same, onL_lst]
              have hla := flat_len ok ((M.lev K).take i)
              rw [List.length_take] at hla
              have hnl := nxt_len ok p
              refine ⟨by simp only [lvD, List.length_map]; omega, ⟨_, _, _, rfl⟩, less_upd (less_new (less_new l' nu) nu2) hw0, hlt2, by rw [put_ne (Ne.symm pwl)]; exact e1v, by rw [put_ne (Ne.symm pwa)]; exact e2v, by rw [put_ne (Ne.symm pwf)]; exact e3v, ?_⟩
              have e3 : lvD (((M.lev K).take (i + 1)).flatMap M.nxt) = lvD (((M.lev K).take i).flatMap M.nxt) ++ lvD (M.nxt p) := by
                rw [List.take_succ_eq_append_getElem hlt2, List.flatMap_append, hp']
                simp [lvD]
              rw [e3]
    · have hge : n ≤ (M.fw K).length := by
        have := of_decide_eq_false hlt
        simp at this
        omega
      exact fun u nu => stop (.inr hge) u nu
  · have hnil : M.lev K = [] := by simpa using hz
    simp only [forall_const, true_implies, false_implies, implies_true, and_true, true_and, reduceCtorEq, Bool.not_true, Bool.not_false, Bool.true_xor, Bool.false_xor, Option.some.injEq, exists_eq_left', put_same, onB_bl, dSeq, dNext, dBreak, dDrop, dRet, dRetN, dIfS, dName, dgNil, dgCons, dgTup, dAsg, dPar, dPar3, dSetI, dgSub, dRaise, dVar, dC, dOp, dTest, dAnd, dOr, dNot, dAndV, dOrV, dNotV, dIf, dNil, dCons, dTup, dLst, dCall, dCB, dMt, dMt0, dInC, dIxC, dChain, dNeg, dNoPart, dPart, dSl, exE, dIsA, dCat, catchD, subE, Ex.ix, endsD, dLc, dISeq, dIRng1, dIRng2, dIEnum, dFor, dDcT, dDcK, dCallV, mStarts_str, mIndex_str, mUpper_str, dSortSet, dListZip, dListRng, dDnew, dLc2, List.getElem?_cons_zero, List.getElem?_cons_succ, List.set_cons_zero, List.set_cons_succ, onL_lst, isA_non, isA_int_int, isA_bool_int, isA_str_int, isA_tup_int, isA_lst_int, isA_int_str, isA_bool_str, isA_str_str, isA_tup_str, isA_lst_str, isA_int_tup, isA_bool_tup, isA_str_tup, isA_tup_tup, isA_lst_tup, isA_int_bl, isA_bool_bl, isA_str_bl, isA_tup_bl, isA_lst_bl, dAdd_int, dAdd_str, dAdd_tup, dAdd_ref, dSub_int, dLt_int, dLe_int, dGt_int, dGe_int, dMul_int, dMul_str, dMul_ref, dMod_int, dFdiv_int, dPow_int, dIsN_, dNotN_, isNon_int, isNon_non, dEq_str, dEq_int, dNe_str, dNe_int, dIn_sign, dIx_str, dIx_tup, dIx_scr, dIx_ref, dCut_str, dCut_tup, dCut_scr, dCut_ref, bLen_str, bLen_tup, bLen_ref, bInt_int, bInt_bl, bTup_tup, bTup_ref, bList_str, bList_tup, bList_ref, tyD_str, mAppend_ref, mExtend_ref, tyL, dSetL_ref, mJoin_ref, bMin_ref, bMax_ref, atI_0, atI_1, atI_2, ef1]
    exact fun u nu => stop (.inl hnil) u nu
theorem row_filter {f : Nat → Bool} {g : D → Bool} {u : D → D} (hg : ∀ o, g (optD o) = Mch.opt f o) (hu : ∀ d, u d = .int 1) : ∀ r : List (Option Nat), ((r.map optD).filter g).map u = ((r.filter (Mch.opt f)).map fun _ => (1 : Int)).map D.int
  | [] => rfl
  | o :: r => by
    have ih := row_filter hg hu r
    rw [List.map_cons]
    by_cases z : Mch.opt f o = true
    · rw [List.filter_cons_of_pos (by rw [hg]; exact z), List.filter_cons_of_pos z, List.map_cons, ih, hu]; rfl
    · rw [List.filter_cons_of_neg (by rw [hg]; exact z), List.filter_cons_of_neg z, ih]
theorem ok__law_firsts (ds : List D) (h : DHp) (Q : DK) (E : DX) (hn : ds.length = 2) (q : sp__law_firsts ds h Q E) : m__law_firsts (endsD Q E) (startD N__law_firsts ds) h := by
  have hs := sizeLine_eq
  obtain ⟨M, n, rfl, ok, n40, q⟩ := q
  have h6 := ok.r6
  have hE := ends_len ok
  rw [st__law_firsts]
  show dSeq _ (dSeq _ (dSeq _ t__law_firsts_3)) _ _ _
  generalize hT : t__law_firsts_3 = T
  simp only [forall_const, true_implies, false_implies, implies_true, and_true, true_and, reduceCtorEq, Bool.not_true, Bool.not_false, Bool.true_xor, Bool.false_xor, Option.some.injEq, exists_eq_left', put_same, onB_bl, dSeq, dNext, dBreak, dDrop, dRet, dRetN, dIfS, dName, dgNil, dgCons, dgTup, dAsg, dPar, dPar3, dSetI, dgSub, dRaise, dVar, dC, dOp, dTest, dAnd, dOr, dNot, dAndV, dOrV, dNotV, dIf, dNil, dCons, dTup, dLst, dCall, dCB, dMt, dMt0, dInC, dIxC, dChain, dNeg, dNoPart, dPart, dSl, exE, dIsA, dCat, catchD, subE, Ex.ix, endsD, dLc, dISeq, dIRng1, dIRng2, dIEnum, dFor, dDcT, dDcK, dCallV, mStarts_str, mIndex_str, mUpper_str, dSortSet, dListZip, dListRng, dDnew, dLc2, List.getElem?_cons_zero, List.getElem?_cons_succ, List.set_cons_zero, List.set_cons_succ, onL_lst, isA_non, isA_int_int, isA_bool_int, isA_str_int, isA_tup_int, isA_lst_int, isA_int_str, isA_bool_str, isA_str_str, isA_tup_str, isA_lst_str, isA_int_tup, isA_bool_tup, isA_str_tup, isA_tup_tup, isA_lst_tup, isA_int_bl, isA_bool_bl, isA_str_bl, isA_tup_bl, isA_lst_bl, dAdd_int, dAdd_str, dAdd_tup, dAdd_ref, dSub_int, dLt_int, dLe_int, dGt_int, dGe_int, dMul_int, dMul_str, dMul_ref, dMod_int, dFdiv_int, dPow_int, dIsN_, dNotN_, isNon_int, isNon_non, dEq_str, dEq_int, dNe_str, dNe_int, dIn_sign, dIx_str, dIx_tup, dIx_scr, dIx_ref, dCut_str, dCut_tup, dCut_scr, dCut_ref, bLen_str, bLen_tup, bLen_ref, bInt_int, bInt_bl, bTup_tup, bTup_ref, bList_str, bList_tup, bList_ref, tyD_str, mAppend_ref, mExtend_ref, tyL, dSetL_ref, mJoin_ref, bMin_ref, bMax_ref, atI_0, atI_1, atI_2]
  refine ⟨.tup (natsD M.E), atI_2, ?_⟩
  refine lcB_map (fun d => .tup [d, .bl true]) True.intro (by simp [natsD]; omega) (fun d hd => ?_) fun u nu => ?_
  · obtain ⟨e, he, rfl⟩ := List.mem_map.mp hd
    exact ⟨_, rfl, fun K k => ⟨by show (2 : Nat) ≤ sizeLine; omega, k⟩⟩
  · have em : (natsD M.E).map (fun d => D.tup [d, .bl true]) = M.E.map fun (e : Nat) => D.tup [.int (e : Nat), .bl true] := by unfold natsD; rw [List.map_map]; rfl
    rw [em]
    obtain ⟨l', e1, e2, e3⟩ := putCs_form (.bl true) (kN M.E) []
    rw [List.map_nil] at e1
    refine ⟨_, _, put_same, pairs_map _ _, fun pa npa => ?_⟩
    rw [e1]
    have hl' : ∀ j, j ∈ l' ↔ j ∈ kN M.E := fun j => by rw [e2]; simp
    have k0 := keys_map (v := .bl true) hl'
    have hl1 : (l'.map fun k => ((k, D.bl true) : KeyD × D)).length ≤ 6 := by rw [List.length_map]; simp [kN] at e3; omega
    have lg := less_new (o := .dct (l'.map fun k => (k, .bl true))) (less_new (o := .lst (M.E.map fun (e : Nat) => D.tup [.int (e : Nat), .bl true])) (Less.refl (h := h)) nu) npa
    have na0 := (none_old npa).1
    have ga : put (put h u (.lst (M.E.map fun (e : Nat) => D.tup [.int (e : Nat), .bl true]))) pa (.dct (l'.map fun k => (k, .bl true))) pa = some (.dct (l'.map fun k => (k, .bl true))) := put_same
    generalize put (put h u (.lst (M.E.map fun (e : Nat) => D.tup [.int (e : Nat), .bl true]))) pa (.dct (l'.map fun k => (k, .bl true))) = g at lg ga
    generalize (l'.map fun k => ((k, D.bl true) : KeyD × D)) = kvs at k0 hl1 ga
    refine ⟨⟨by omega, by omega⟩, ?_⟩
    refine forB_inv (fun t δ g => (∃ s3 s7 s8, δ = [some (mchD M), some (.int (n : Nat)), some (.ref pa), s3, none, none, none, s7, s8, none, none, none, none, none, none, none]) ∧ Less h g ∧ t ≤ 6 ∧ ∃ (kvs : List (KeyD × D)) (f : Nat → Bool), g pa = some (.dct kvs) ∧ Keys kvs f ∧ (∀ q, M.al t q = true → f q = true) ∧ (∀ q, f q = true → M.live q = true) ∧ kvs.length ≤ 10 + 10 * t)
      ⟨⟨_, _, _, rfl⟩, lg, Nat.zero_le _, kvs, _, ga, k0, fun q h => h, fun q h => live_end (of_decide_eq_true h), by omega⟩ (fun _ _ _ _ => True.intro) ?_ ?_
    · rintro δ g ⟨⟨s3, s7, s8, rfl⟩, l, _, kvs, f, ea, hk, f1, f2, hz⟩
      rw [rngD_len] at f1
      have hk2 : Keys kvs M.live := by
        intro j
        rw [hk j]
        congr 1
        rw [Bool.eq_iff_iff]
        exact ⟨f2 _, f1 _⟩
      simp only [forall_const, true_implies, false_implies, implies_true, and_true, true_and, reduceCtorEq, Bool.not_true, Bool.not_false, Bool.true_xor, Bool.false_xor, Option.some.injEq, exists_eq_left', put_same, onB_bl, dSeq, dNext, dBreak, dDrop, dRet, dRetN, dIfS, dName, dgNil, dgCons, dgTup, dAsg, dPar, dPar3, dSetI, dgSub, dRaise, dVar, dC, dOp, dTest, dAnd, dOr, dNot, dAndV, dOrV, dNotV, dIf, dNil, dCons, dTup, dLst, dCall, dCB, dMt, dMt0, dInC, dIxC, dChain, dNeg, dNoPart, dPart, dSl, exE, dIsA, dCat, catchD, subE, Ex.ix, endsD, dLc, dISeq, dIRng1, dIRng2, dIEnum, dFor, dDcT, dDcK, dCallV, mStarts_str, mIndex_str, mUpper_str, dSortSet, dListZip, dListRng, dDnew, dLc2, List.getElem?_cons_zero, List.getElem?_cons_succ, List.set_cons_zero, List.set_cons_succ, onL_lst, isA_non, isA_int_int, isA_bool_int, isA_str_int, isA_tup_int, isA_lst_int, isA_int_str, isA_bool_str, isA_str_str, isA_tup_str, isA_lst_str, isA_int_tup, isA_bool_tup, isA_str_tup, isA_tup_tup, isA_lst_tup, isA_int_bl, isA_bool_bl, isA_str_bl, isA_tup_bl, isA_lst_bl, dAdd_int, dAdd_str, dAdd_tup, dAdd_ref, dSub_int, dLt_int, dLe_int, dGt_int, dGe_int, dMul_int, dMul_str, dMul_ref, dMod_int, dFdiv_int, dPow_int, dIsN_, dNotN_, isNon_int, isNon_non, dEq_str, dEq_int, dNe_str, dNe_int, dIn_sign, dIx_str, dIx_tup, dIx_scr, dIx_ref, dCut_str, dCut_tup, dCut_scr, dCut_ref, bLen_str, bLen_tup, bLen_ref, bInt_int, bInt_bl, bTup_tup, bTup_ref, bList_str, bList_tup, bList_ref, tyD_str, mAppend_ref, mExtend_ref, tyL, dSetL_ref, mJoin_ref, bMin_ref, bMax_ref, atI_0, atI_1, atI_2]
      refine dIn_keys (q := 0) ea hk2 ?_
      simp only [onB_bl, Bool.false_xor]
      refine ⟨fun z => ⟨by show (2 : Nat) ≤ sizeLine; omega, by show (1 : Nat) ≤ sizeLine; omega, fun pl nl => ?_⟩, fun z => ⟨by show (0 : Nat) ≤ sizeLine; omega, fun pl nl => ?_⟩⟩
      · refine ⟨by show (0 : Nat) ≤ sizeLine; omega, fun pf nf => ?_⟩
        have nf' := none_old nf
        subst hT
        exact end_law_firsts ok n40 _ rfl (less_new (less_new l nl) nf) nf'.2 (put_old (by rw [put_same]; simp [Mch.lev, z, lvD]) nf) (put_old (put_old ea nl) nf) put_same hk2 q _ _ _ _ _ _ _ _ _ _ _
      · refine ⟨by show (0 : Nat) ≤ sizeLine; omega, fun pf nf => ?_⟩
        have nf' := none_old nf
        subst hT
        exact end_law_firsts ok n40 _ rfl (less_new (less_new l nl) nf) nf'.2 (put_old (by rw [put_same]; simp [Mch.lev, z, lvD]) nf) (put_old (put_old ea nl) nf) put_same hk2 q _ _ _ _ _ _ _ _ _ _ _
    · rintro t d δ g hd ⟨⟨s3, s7, s8, rfl⟩, l, ht, kvs, f, ea, hk, f1, f2, hz⟩
      obtain ⟨htn, rfl⟩ := rngD_get hd
      have htn : t < 6 := by simpa using htn
      simp only [forall_const, true_implies, false_implies, implies_true, and_true, true_and, reduceCtorEq, Bool.not_true, Bool.not_false, Bool.true_xor, Bool.false_xor, Option.some.injEq, exists_eq_left', put_same, onB_bl, dSeq, dNext, dBreak, dDrop, dRet, dRetN, dIfS, dName, dgNil, dgCons, dgTup, dAsg, dPar, dPar3, dSetI, dgSub, dRaise, dVar, dC, dOp, dTest, dAnd, dOr, dNot, dAndV, dOrV, dNotV, dIf, dNil, dCons, dTup, dLst, dCall, dCB, dMt, dMt0, dInC, dIxC, dChain, dNeg, dNoPart, dPart, dSl, exE, dIsA, dCat, catchD, subE, Ex.ix, endsD, dLc, dISeq, dIRng1, dIRng2, dIEnum, dFor, dDcT, dDcK, dCallV, mStarts_str, mIndex_str, mUpper_str, dSortSet, dListZip, dListRng, dDnew, dLc2, List.getElem?_cons_zero, List.getElem?_cons_succ, List.set_cons_zero, List.set_cons_succ, onL_lst, isA_non, isA_int_int, isA_bool_int, isA_str_int, isA_tup_int, isA_lst_int, isA_int_str, isA_bool_str, isA_str_str, isA_tup_str, isA_lst_str, isA_int_tup, isA_bool_tup, isA_str_tup, isA_tup_tup, isA_lst_tup, isA_int_bl, isA_bool_bl, isA_str_bl, isA_tup_bl, isA_lst_bl, dAdd_int, dAdd_str, dAdd_tup, dAdd_ref, dSub_int, dLt_int, dLe_int, dGt_int, dGe_int, dMul_int, dMul_str, dMul_ref, dMod_int, dFdiv_int, dPow_int, dIsN_, dNotN_, isNon_int, isNon_non, dEq_str, dEq_int, dNe_str, dNe_int, dIn_sign, dIx_str, dIx_tup, dIx_scr, dIx_ref, dCut_str, dCut_tup, dCut_scr, dCut_ref, bLen_str, bLen_tup, bLen_ref, bInt_int, bInt_bl, bTup_tup, bTup_ref, bList_str, bList_tup, bList_ref, tyD_str, mAppend_ref, mExtend_ref, tyL, dSetL_ref, mJoin_ref, bMin_ref, bMax_ref, atI_0, atI_1, atI_2]
      refine ⟨.tup (M.R.map rowD), atI_1, ?_⟩
      refine forB_inv (fun i δ g => (∃ s7 s8, δ = [some (mchD M), some (.int (n : Nat)), some (.ref pa), some (.int (0 + (t : Int))), none, none, none, s7, s8, none, none, none, none, none, none, none]) ∧ Less h g ∧ i ≤ 6 ∧ ∃ (kvs : List (KeyD × D)) (f : Nat → Bool), g pa = some (.dct kvs) ∧ Keys kvs f ∧ (∀ q, M.al t q = true → f q = true) ∧ (∀ q, q < i → M.al (t + 1) q = true → f q = true) ∧ (∀ q, f q = true → M.live q = true) ∧ kvs.length ≤ 10 + 10 * t + i)
        ⟨⟨_, _, rfl⟩, l, Nat.zero_le _, kvs, f, ea, hk, f1, (fun q hq => by omega), f2, by omega⟩ (fun _ _ _ _ => True.intro) ?_ ?_
      · rintro δ g ⟨⟨s7, s8, rfl⟩, l, hi, kvs, f, ea, hk, f1, f3, f2, hz⟩
        have el : (enumD (M.R.map rowD)).length = M.R.length := by simp [enumD]
        rw [el] at f3 hz
        exact ⟨⟨_, _, _, rfl⟩, l, htn, kvs, f, ea, hk, fun q hq => f3 q (al_lt ok hq) hq, f2, by omega⟩
      · rintro i d δ g hd ⟨⟨s7, s8, rfl⟩, l, hi, kvs, f, ea, hk, f1, f3, f2, hz⟩
        unfold enumD at hd
        rw [List.getElem?_mapIdx, List.getElem?_map, Option.map_map] at hd
        obtain ⟨r, hr, rfl⟩ := Option.map_eq_some_iff.mp hd
        have hiR : i < M.R.length := (List.getElem?_eq_some_iff.mp hr).1
        show [D.int (i : Nat), rowD r].length = 2 ∧ _
        refine ⟨rfl, ?_⟩
        simp only [forall_const, true_implies, false_implies, implies_true, and_true, true_and, reduceCtorEq, Bool.not_true, Bool.not_false, Bool.true_xor, Bool.false_xor, Option.some.injEq, exists_eq_left', put_same, onB_bl, dSeq, dNext, dBreak, dDrop, dRet, dRetN, dIfS, dName, dgNil, dgCons, dgTup, dAsg, dPar, dPar3, dSetI, dgSub, dRaise, dVar, dC, dOp, dTest, dAnd, dOr, dNot, dAndV, dOrV, dNotV, dIf, dNil, dCons, dTup, dLst, dCall, dCB, dMt, dMt0, dInC, dIxC, dChain, dNeg, dNoPart, dPart, dSl, exE, dIsA, dCat, catchD, subE, Ex.ix, endsD, dLc, dISeq, dIRng1, dIRng2, dIEnum, dFor, dDcT, dDcK, dCallV, mStarts_str, mIndex_str, mUpper_str, dSortSet, dListZip, dListRng, dDnew, dLc2, List.getElem?_cons_zero, List.getElem?_cons_succ, List.set_cons_zero, List.set_cons_succ, onL_lst, isA_non, isA_int_int, isA_bool_int, isA_str_int, isA_tup_int, isA_lst_int, isA_int_str, isA_bool_str, isA_str_str, isA_tup_str, isA_lst_str, isA_int_tup, isA_bool_tup, isA_str_tup, isA_tup_tup, isA_lst_tup, isA_int_bl, isA_bool_bl, isA_str_bl, isA_tup_bl, isA_lst_bl, dAdd_int, dAdd_str, dAdd_tup, dAdd_ref, dSub_int, dLt_int, dLe_int, dGt_int, dGe_int, dMul_int, dMul_str, dMul_ref, dMod_int, dFdiv_int, dPow_int, dIsN_, dNotN_, isNon_int, isNon_non, dEq_str, dEq_int, dNe_str, dNe_int, dIn_sign, dIx_str, dIx_tup, dIx_scr, dIx_ref, dCut_str, dCut_tup, dCut_scr, dCut_ref, bLen_str, bLen_tup, bLen_ref, bInt_int, bInt_bl, bTup_tup, bTup_ref, bList_str, bList_tup, bList_ref, tyD_str, mAppend_ref, mExtend_ref, tyL, dSetL_ref, mJoin_ref, bMin_ref, bMax_ref, atI_0, atI_1, atI_2, rowD]
        have hrl : r.length ≤ 3 := by rw [(ok.row r (List.mem_of_getElem? hr)).1]; exact ok.l3
        refine lcB_filter (fun d => match d with | .int a => f a.toNat | _ => false) (fun _ => .int 1) True.intro (by rw [List.length_map]; omega) (fun d hd => ?_) fun u nu => ?_
        · obtain ⟨o, ho, rfl⟩ := List.mem_map.mp hd
          refine ⟨_, rfl, fun K k => ?_, fun _ K k => k⟩
          simp only [forall_const, true_implies, false_implies, implies_true, and_true, true_and, reduceCtorEq, Bool.not_true, Bool.not_false, Bool.true_xor, Bool.false_xor, Option.some.injEq, exists_eq_left', put_same, onB_bl, dSeq, dNext, dBreak, dDrop, dRet, dRetN, dIfS, dName, dgNil, dgCons, dgTup, dAsg, dPar, dPar3, dSetI, dgSub, dRaise, dVar, dC, dOp, dTest, dAnd, dOr, dNot, dAndV, dOrV, dNotV, dIf, dNil, dCons, dTup, dLst, dCall, dCB, dMt, dMt0, dInC, dIxC, dChain, dNeg, dNoPart, dPart, dSl, exE, dIsA, dCat, catchD, subE, Ex.ix, endsD, dLc, dISeq, dIRng1, dIRng2, dIEnum, dFor, dDcT, dDcK, dCallV, mStarts_str, mIndex_str, mUpper_str, dSortSet, dListZip, dListRng, dDnew, dLc2, List.getElem?_cons_zero, List.getElem?_cons_succ, List.set_cons_zero, List.set_cons_succ, onL_lst, isA_non, isA_int_int, isA_bool_int, isA_str_int, isA_tup_int, isA_lst_int, isA_int_str, isA_bool_str, isA_str_str, isA_tup_str, isA_lst_str, isA_int_tup, isA_bool_tup, isA_str_tup, isA_tup_tup, isA_lst_tup, isA_int_bl, isA_bool_bl, isA_str_bl, isA_tup_bl, isA_lst_bl, dAdd_int, dAdd_str, dAdd_tup, dAdd_ref, dSub_int, dLt_int, dLe_int, dGt_int, dGe_int, dMul_int, dMul_str, dMul_ref, dMod_int, dFdiv_int, dPow_int, dIsN_, dNotN_, isNon_int, isNon_non, dEq_str, dEq_int, dNe_str, dNe_int, dIn_sign, dIx_str, dIx_tup, dIx_scr, dIx_ref, dCut_str, dCut_tup, dCut_scr, dCut_ref, bLen_str, bLen_tup, bLen_ref, bInt_int, bInt_bl, bTup_tup, bTup_ref, bList_str, bList_tup, bList_ref, tyD_str, mAppend_ref, mExtend_ref, tyL, dSetL_ref, mJoin_ref, bMin_ref, bMax_ref, atI_0, atI_1, atI_2, dwipe]
          refine dIn_keysO ea hk ?_
          cases o with
          | none => exact k
          | some a => simpa [onB_bl, Mch.opt, optD] using k
        · have el : ((r.map optD).filter fun d => (match d with | .int a => f a.toNat | _ => false)).map (fun _ => D.int 1) = ((r.filter (Mch.opt f)).map fun _ => (1 : Int)).map D.int := by
            exact row_filter (fun o => by cases o <;> simp [optD, Mch.opt]) (fun _ => rfl) r
          rw [el]
          try simp only [forall_const, true_implies, false_implies, implies_true, and_true, true_and, reduceCtorEq, Bool.not_true, Bool.not_false, Bool.true_xor, Bool.false_xor, Option.some.injEq, exists_eq_left', put_same, onB_bl, dSeq, dNext, dBreak, dDrop, dRet, dRetN, dIfS, dName, dgNil, dgCons, dgTup, dAsg, dPar, dPar3, dSetI, dgSub, dRaise, dVar, dC, dOp, dTest, dAnd, dOr, dNot, dAndV, dOrV, dNotV, dIf, dNil, dCons, dTup, dLst, dCall, dCB, dMt, dMt0, dInC, dIxC, dChain, dNeg, dNoPart, dPart, dSl, exE, dIsA, dCat, catchD, subE, Ex.ix, endsD, dLc, dISeq, dIRng1, dIRng2, dIEnum, dFor, dDcT, dDcK, dCallV, mStarts_str, mIndex_str, mUpper_str, dSortSet, dListZip, dListRng, dDnew, dLc2, List.getElem?_cons_zero, List.getElem?_cons_succ, List.set_cons_zero, List.set_cons_succ, onL_lst, isA_non, isA_int_int, isA_bool_int, isA_str_int, isA_tup_int, isA_lst_int, isA_int_str, isA_bool_str, isA_str_str, isA_tup_str, isA_lst_str, isA_int_tup, isA_bool_tup, isA_str_tup, isA_tup_tup, isA_lst_tup, isA_int_bl, isA_bool_bl, isA_str_bl, isA_tup_bl, isA_lst_bl, dAdd_int, dAdd_str, dAdd_tup, dAdd_ref, dSub_int, dLt_int, dLe_int, dGt_int, dGe_int, dMul_int, dMul_str, dMul_ref, dMod_int, dFdiv_int, dPow_int, dIsN_, dNotN_, isNon_int, isNon_non, dEq_str, dEq_int, dNe_str, dNe_int, dIn_sign, dIx_str, dIx_tup, dIx_scr, dIx_ref, dCut_str, dCut_tup, dCut_scr, dCut_ref, bLen_str, bLen_tup, bLen_ref, bInt_int, bInt_bl, bTup_tup, bTup_ref, bList_str, bList_tup, bList_ref, tyD_str, mAppend_ref, mExtend_ref, tyL, dSetL_ref, mJoin_ref, bMin_ref, bMax_ref, atI_0, atI_1, atI_2]
          refine ⟨by show (0 : Nat) ≤ sizeLine; omega, fun u2 nu2 => ?_⟩
          refine dNe_ints (vs := []) (put_old put_same nu2) put_same ?_
          simp only [onB_bl]
          have ea2 := put_old (o := .lst []) (put_old (o := .lst (((r.filter (Mch.opt f)).map fun _ => (1 : Int)).map D.int)) ea nu) nu2
          have l2 := less_new (o := .lst []) (less_new (o := .lst (((r.filter (Mch.opt f)).map fun _ => (1 : Int)).map D.int)) l nu) nu2
          refine ⟨fun z => ?_, fun z => ?_⟩
          · have z : r.filter (Mch.opt f) ≠ [] := by simpa using z
            obtain ⟨o, ho⟩ := List.exists_mem_of_ne_nil _ z
            rw [List.mem_filter] at ho
            obtain ⟨a, rfl⟩ : ∃ a, o = some a := by cases o with | none => cases ho.2 | some a => exact ⟨a, rfl⟩
            have fa : f a = true := ho.2
            have hmem : some a ∈ M.R.getD i [] := by rw [List.getD_eq_getElem?_getD, hr]; exact ho.1
            refine ⟨kvs, .inl (i : Int), ea2, rfl, by omega, ⟨_, _, rfl⟩, less_upd l2 na0, by omega, _, _, put_same, keys_one hk, fun q hq => ?_, fun q hq h1 => ?_, fun q hq => ?_, ?_⟩
            · rw [f1 q hq]; rfl
            · by_cases e : q = i
              · simp [e]
              · rw [f3 q (by omega) h1]; rfl
            · rcases Bool.or_eq_true_iff.mp hq with h1 | h1
              · exact f2 q h1
              · have e : q = i := of_decide_eq_true h1
                subst e
                exact live_closed ok hmem (f2 a fa)
            · have := putC_len kvs (.inl (i : Int)) (.bl true)
              omega
          · have z : r.filter (Mch.opt f) = [] := by simpa using z
            refine ⟨⟨_, _, rfl⟩, l2, by omega, kvs, f, ea2, hk, f1, fun q hq h1 => ?_, f2, by omega⟩
            by_cases e : q = i
            · subst e
              rcases Bool.or_eq_true_iff.mp (show (M.al t q || M.any (M.al t) q) = true from h1) with h1 | h1
              · exact f1 q h1
              · rw [any_iff] at h1
                obtain ⟨a, ha, h2⟩ := h1
                rw [List.getD_eq_getElem?_getD, hr] at ha
                have : some a ∈ r.filter (Mch.opt f) := List.mem_filter.mpr ⟨ha, f1 a h2⟩
                rw [z] at this
                cases this
            · exact f3 q (by omega) h1
end Tw

namespace Tw
open PySem PySem.Spec PyProof.Rows L2
/-! ### a machine's text -/
def optP : Option Nat → PyData
  | none => .none
  | some q => .int (q : Nat)
def rowP (r : List (Option Nat)) : PyData := .tuple (r.map optP)
def mchP (M : Mch) : PyData := .tuple [.str (tx M.L), .tuple (M.R.map rowP), .tuple (M.E.map fun (e : Nat) => PyData.int (e : Nat))]
theorem py_opts {h : DHp} : ∀ r : List (Option Nat), PyA h (r.map optD) (r.map optP)
  | [] => .nil
  | none :: r => .cons .non (py_opts r)
  | some q :: r => .cons (.int _) (py_opts r)
theorem py_rows {h : DHp} : ∀ R : List (List (Option Nat)), PyA h (R.map rowD) (R.map rowP)
  | [] => .nil
  | r :: R => .cons (.tup (py_opts r)) (py_rows R)
theorem py_nats {h : DHp} : ∀ l : List Nat, PyA h (natsD l) (l.map fun (e : Nat) => PyData.int (e : Nat))
  | [] => .nil
  | e :: l => .cons (.int _) (py_nats l)
theorem py_mch {h : DHp} (M : Mch) : Py h (mchD M) (mchP M) := .tup (.cons (.str _) (.cons (.tup (py_rows _)) (.cons (.tup (py_nats _)) .nil)))
theorem int_show : ∀ q : Nat, q < 6 → PyData.showable (.int (q : Nat)) = true
  | 0, _ => by decide
  | 1, _ => by decide
  | 2, _ => by decide
  | 3, _ => by decide
  | 4, _ => by decide
  | 5, _ => by decide
  | n + 6, h => by omega
theorem sh_opts : ∀ r : List (Option Nat), (∀ q, some q ∈ r → q < 6) → PyData.showableAll (r.map optP) = true ∧ PyData.hasDictAll (r.map optP) = false ∧ PyData.depthAll (r.map optP) = 0 ∧ PyData.bulkAll (r.map optP) = r.length
  | [], _ => ⟨rfl, rfl, rfl, rfl⟩
  | o :: r, h => by
    obtain ⟨a, b, c, d⟩ := sh_opts r fun q hq => h q (by simp [hq])
    rw [List.map_cons, PyData.showableAll, PyData.hasDictAll, PyData.depthAll, PyData.bulkAll, a, b, c, d]
    cases o with
    | none => simp [optP, PyData.showable, PyData.hasDict, PyData.depth, PyData.bulk]; omega
    | some q =>
      have := int_show q (h q (by simp))
      simp only [optP, this, PyData.hasDict, PyData.depth, PyData.bulk, List.length_cons]
      refine ⟨rfl, rfl, rfl, by omega⟩
theorem sh_nats : ∀ r : List Nat, (∀ q ∈ r, q < 6) → PyData.showableAll (r.map fun (e : Nat) => PyData.int (e : Nat)) = true ∧ PyData.hasDictAll (r.map fun (e : Nat) => PyData.int (e : Nat)) = false ∧ PyData.depthAll (r.map fun (e : Nat) => PyData.int (e : Nat)) = 0 ∧ PyData.bulkAll (r.map fun (e : Nat) => PyData.int (e : Nat)) = r.length
  | [], _ => ⟨rfl, rfl, rfl, rfl⟩
  | o :: r, h => by
    obtain ⟨a, b, c, d⟩ := sh_nats r fun q hq => h q (by simp [hq])
    rw [List.map_cons, PyData.showableAll, PyData.hasDictAll, PyData.depthAll, PyData.bulkAll, a, b, c, d]
    have := int_show o (h o (by simp))
    simp only [this, PyData.hasDict, PyData.depth, PyData.bulk, List.length_cons]
    refine ⟨rfl, rfl, rfl, by omega⟩
theorem sh_rows {k : Nat} : ∀ R : List (List (Option Nat)), (∀ r ∈ R, r.length ≤ k ∧ ∀ q, some q ∈ r → q < 6) → PyData.showableAll (R.map rowP) = true ∧ PyData.hasDictAll (R.map rowP) = false ∧ PyData.depthAll (R.map rowP) ≤ 1 ∧ PyData.bulkAll (R.map rowP) ≤ (k + 1) * R.length
  | [], _ => ⟨rfl, rfl, Nat.zero_le _, Nat.zero_le _⟩
  | r :: R, h => by
    obtain ⟨a, b, c, d⟩ := sh_rows R fun r hr => h r (by simp [hr])
    have hr := h r (by simp)
    obtain ⟨a1, b1, c1, d1⟩ := sh_opts r hr.2
    rw [List.map_cons, PyData.showableAll, PyData.hasDictAll, PyData.depthAll, PyData.bulkAll, a, b]
    simp only [rowP, PyData.showable, PyData.hasDict, PyData.depth, PyData.bulk, a1, b1, c1, d1, List.length_cons, Nat.mul_succ]
    refine ⟨rfl, rfl, ?_, by omega⟩
    exact Nat.max_le.mpr ⟨by omega, c⟩
theorem int_short : ∀ q : Nat, q < 6 → PyData.leavesShort 8 (.int (q : Nat)) = true
  | 0, _ => by decide
  | 1, _ => by decide
  | 2, _ => by decide
  | 3, _ => by decide
  | 4, _ => by decide
  | 5, _ => by decide
  | n + 6, h => by omega
theorem short_opts : ∀ r : List (Option Nat), (∀ q, some q ∈ r → q < 6) → PyData.leavesShortAll 8 (r.map optP) = true
  | [], _ => rfl
  | o :: r, h => by
    rw [List.map_cons, PyData.leavesShortAll, short_opts r fun q hq => h q (by simp [hq]), Bool.and_true]
    cases o with
    | none => rfl
    | some q => exact int_short q (h q (by simp))
theorem short_nats : ∀ r : List Nat, (∀ q ∈ r, q < 6) → PyData.leavesShortAll 8 (r.map fun (e : Nat) => PyData.int (e : Nat)) = true
  | [], _ => rfl
  | o :: r, h => by
    rw [List.map_cons, PyData.leavesShortAll, short_nats r fun q hq => h q (by simp [hq]), Bool.and_true]
    exact int_short o (h o (by simp))
theorem short_rows : ∀ R : List (List (Option Nat)), (∀ r ∈ R, ∀ q, some q ∈ r → q < 6) → PyData.leavesShortAll 8 (R.map rowP) = true
  | [], _ => rfl
  | r :: R, h => by
    rw [List.map_cons, PyData.leavesShortAll, short_rows R fun r hr => h r (by simp [hr]), Bool.and_true]
    simp only [rowP, PyData.leavesShort]
    exact short_opts r (h r (by simp))
def shownM (M : Mch) : Tx := (mchP M).shown.cps.toList
theorem repr_mch {M : Mch} {h : DHp} {K : DK} (ok : M.ok) (k : K (.str (shownM M)) h) : bRepr [mchD M] h K := by
  have hs := sizeLine_eq
  obtain ⟨a1, b1, c1, d1⟩ := sh_rows (k := 3) M.R fun r hr => ⟨by rw [(ok.row r hr).1]; exact ok.l3, fun q hq => by have := (ok.row r hr).2 q hq; have := ok.r6; omega⟩
  obtain ⟨a2, b2, c2, d2⟩ := sh_nats M.E fun q hq => by have := ok.ends q hq; have := ok.r6; omega
  have hE := ends_len ok
  have hR := ok.r6
  have hL := ok.l3
  refine ⟨_, py_mch M, ?_, ?_, ?_, ?_, k⟩
  · simp [mchP, PyData.showable, PyData.showableAll, a1, a2]
  · simp [mchP, PyData.hasDict, PyData.hasDictAll, b1, b2]
  · simp [mchP, PyData.depth, PyData.depthAll, c2]
    omega
  · have hl : PyData.leavesShort 8 (mchP M) = true := by
      simp only [mchP, PyData.leavesShort, PyData.leavesShortAll, Bool.and_true, Bool.and_eq_true]
      refine ⟨?_, short_rows _ fun r hr q hq => by have := (ok.row r hr).2 q hq; omega, short_nats _ fun q hq => by have := ok.ends q hq; omega⟩
      have := leaf_s (x := M.L) (okTx_L ok fun c hc => hc)
      simpa only [PyData.leavesShort] using this
    have h1 := PyData.shown_le_bulk 8 (by decide) _ hl
    have h3 : (tx M.L).cps.size = M.L.length := by simp [tx]
    have hb : (mchP M).bulk ≤ 1000 := by
      simp only [mchP, PyData.bulk, PyData.bulkAll, h3, d2]
      omega
    have : (8 + 2) * (mchP M).bulk ≤ 10 * 1000 := Nat.mul_le_mul_left _ hb
    omega
def shownB (b : Bool) : Tx := (PyData.bool b).shown.cps.toList
theorem repr_bl {b : Bool} {h : DHp} {K : DK} (k : K (.str (shownB b)) h) : bRepr [.bl b] h K := by
  have hs := sizeLine_eq
  refine ⟨_, .bl b, rfl, rfl, Nat.zero_le _, ?_, k⟩
  have e : (PyData.shown (.bool b)).length ≤ 5 := by cases b <;> decide
  omega
theorem upper_small : ∀ c ∈ SMALL, (Txt.upper (tx [c])).cps.toList = [c - 32] := by decide +kernel
/-- one that is none of three -/
theorem other_sign {L : Tx} (h : L.length ≤ 3) : ∃ c r, ([97, 98, 99, 100, 120, 121, 122] : Tx).filter (fun c => !decide (c ∈ L)) = c :: r := by
  have hne : ([97, 98, 99, 100, 120, 121, 122] : Tx).filter (fun c => !decide (c ∈ L)) ≠ [] := by
    intro z
    rw [List.filter_eq_nil_iff] at z
    have h1 := z 97 (by decide)
    have h2 := z 98 (by decide)
    have h3 := z 99 (by decide)
    have h4 := z 100 (by decide)
    match L, h with
    | [], _ => simp at h1
    | [a], _ => simp at h1 h2; omega
    | [a, b], _ => simp at h1 h2 h3; omega
    | [a, b, c], _ => simp at h1 h2 h3 h4; omega
  cases e : ([97, 98, 99, 100, 120, 121, 122] : Tx).filter (fun c => !decide (c ∈ L)) with
  | nil => exact absurd e hne
  | cons c r => exact ⟨c, r, rfl⟩
theorem isText_long {x L : Tx} (h : 200 < x.length) : isText (.str x) L = false := by
  show (decide (x.length ≤ 200) && madeOf x L) = false
  rw [decide_eq_false (by omega)]
  rfl
def sp_law : SpD := fun ds h Q _ => match ds with
  | [.scr ns] => ns.length ≤ 63 ∧ ∀ h', Q (.bl true) h'
  | _ => False
/-- law(script); slots: script 0, pen 1, turn 2, chain 3, machine 4, long 5, words 6, again 7, word 8, many 9, other 10, odds 11, odd 12, text 13, letters 14, due 15, told 16, state 17, at 18, sign 19, c 20, more 21 -/
def N_law : List Str := ["script", "pen", "turn", "chain", "machine", "long", "words", "again", "word", "many", "other", "odds", "odd", "text", "letters", "due", "told", "state", "at", "sign", "c", "more"]
def m_law : MS := dSeq (dAsg (dCall 1 sp__law_open (dCons (dVar 0) (dNil))) (dName 1)) (dSeq (dFor (dIRng1 (dCons (dC (.int 2)) (dNil))) (dName 2) (dSeq (dAsg (dCall 2 sp__law_any_machine (dCons (dVar 1) (dCons (dC (.int 6)) (dNil)))) (dName 4)) (dSeq (dAsg (dIf (dTest (dOp dLt (dCB bLen (dCons (dOp dIx (dVar 4) (dC (.int 0))) (dNil))) (dC (.int 3)))) (dVar 4) (dCall 2 sp__law_any_machine (dCons (dVar 1) (dCons (dC (.int 4)) (dNil))))) (dName 4)) (dSeq (dAsg (dTup (dCons (dCB bRepr (dCons (dVar 4) (dNil))) (dCons (dOp dIx (dVar 4) (dC (.int 0))) (dNil)))) (dgTup 2 (dgCons (dName 13) (dgCons (dName 14) (dgNil))))) (dSeq (dAsg (dCall 3 sp__law_any_path (dCons (dVar 1) (dCons (dVar 4) (dCons (dC (.int 200)) (dNil))))) (dName 5)) (dSeq (dAsg (dLst (dCons (dC (.str [])) (dCons (dVar 5) (dCons (dSl (dVar 5) (dNoPart) (dPart (dC (.int 199)))) (dCons (dOp dAdd (dVar 5) (dOp dIx (dVar 14) (dC (.int 0)))) (dCons (dCall 3 sp__law_any_path (dCons (dVar 1) (dCons (dVar 4) (dCons (dC (.int 7)) (dNil))))) (dNil))))))) (dName 6)) (dSeq (dFor (dIRng1 (dCons (dC (.int 4)) (dNil))) (dName 7) (dDrop (dMt "list" mAppend (dVar 6) (dCons (dMt "str" mJoin (dC (.str [])) (dCons (dLc (dIRng1 (dCons (dCall 2 sp__law_take (dCons (dVar 1) (dCons (dC (.int 9)) (dNil)))) (dNil))) (.nm 21) (dYes) (dCall 2 sp__law_one_of (dCons (dVar 1) (dCons (dVar 14) (dNil)))) [21]) (dNil))) (dNil))))) (dSeq (dFor (dISeq (dVar 6)) (dName 8) (dIfS (dAnd (dTest (dOp dLe (dCB bLen (dCons (dVar 8) (dNil))) (dC (.int 200)))) (dTest (dOp dNe (dCB bRepr (dCons (dCall 2 sp_has_word (dCons (dVar 4) (dCons (dVar 8) (dNil)))) (dNil))) (dCB bRepr (dCons (dCall 2 sp__law_has (dCons (dVar 4) (dCons (dVar 8) (dNil)))) (dNil)))))) (dRet (dC (.bl false))) (dNext))) (dSeq (dFor (dISeq (dLst (dCons (dC (.int 0)) (dCons (dC (.int 1)) (dCons (dC (.int 40)) (dCons (dCall 2 sp__law_take (dCons (dVar 1) (dCons (dC (.int 41)) (dNil)))) (dNil))))))) (dName 9) (dSeq (dAsg (dCall 2 sp__law_firsts (dCons (dVar 4) (dCons (dVar 9) (dNil)))) (dName 15)) (dFor (dIRng1 (dCons (dC (.int 2)) (dNil))) (dName 7) (dSeq (dAsg (dCall 2 sp_first_words (dCons (dVar 4) (dCons (dVar 9) (dNil)))) (dName 16)) (dSeq (dIfS (dTest (dOp dNe (dCB bRepr (dCons (dVar 16) (dNil))) (dCB bRepr (dCons (dVar 15) (dNil))))) (dRet (dC (.bl false))) (dNext)) (dDrop (dMt "list" mAppend (dVar 16) (dCons (dC .non) (dNil))))))))) (dSeq (dAsg (dOp dIx (dLc (dISeq (dC (.str [97, 98, 99, 100, 120, 121, 122]))) (.nm 19) (dTest (dOp (dIn true) (dVar 19) (dVar 14))) (dVar 19) [19]) (dC (.int 0))) (dName 10)) (dSeq (dAsg (dLst (dCons (dC .non) (dCons (dC (.int 1)) (dCons (dOp dMul (dOp dIx (dVar 14) (dC (.int 0))) (dC (.int 201))) (dCons (dVar 10) (dCons (dOp dAdd (dOp dIx (dVar 14) (dC (.int 0))) (dVar 10)) (dCons (dLst (dNil)) (dCons (dTup (dCons (dOp dIx (dVar 14) (dC (.int 0))) (dNil))) (dCons (dC (.str [63])) (dCons (dC (.str [32])) (dCons (dDnew) (dNil)))))))))))) (dName 11)) (dSeq (dFor (dISeq (dOp dAdd (dVar 11) (dLst (dCons (dMt0 "str" mUpper (dOp dIx (dVar 14) (dC (.int 0)))) (dNil))))) (dName 12) (dIfS (dTest (dOp dNe (dCat [.tear, .machine, .word, .count] [(.word, [119, 111, 114, 100]), (.count, [99, 111, 117, 110, 116]), (.tear, [111, 100, 100])] [110, 111, 110, 101] (dCall 2 sp_has_word (dCons (dVar 4) (dCons (dVar 12) (dNil))))) (dC (.str [119, 111, 114, 100])))) (dRet (dC (.bl false))) (dNext))) (dSeq (dFor (dISeq (dLst (dCons (dC .non) (dCons (dNeg (dC (.int 1))) (dCons (dC (.int 41)) (dCons (dC (.bl true)) (dCons (dC (.bl false)) (dCons (dC (.str [49])) (dCons (dTup (dCons (dC (.int 1)) (dNil))) (dNil)))))))))) (dName 12) (dIfS (dTest (dOp dNe (dCat [.tear, .machine, .word, .count] [(.word, [119, 111, 114, 100]), (.count, [99, 111, 117, 110, 116]), (.tear, [111, 100, 100])] [110, 111, 110, 101] (dCall 2 sp_first_words (dCons (dVar 4) (dCons (dVar 12) (dNil))))) (dC (.str [99, 111, 117, 110, 116])))) (dRet (dC (.bl false))) (dNext))) (dIfS (dTest (dOp dNe (dCB bRepr (dCons (dVar 4) (dNil))) (dVar 13))) (dRet (dC (.bl false))) (dNext))))))))))))))) (dSeq (dAsg (dLc (dIEnum (dCons (dLst (dCons (dC (.int 0)) (dCons (dC (.int 2)) (dCons (dC (.int 1)) (dCons (dC (.int 0)) (dCons (dC (.int 2)) (dNil))))))) (dNil))) (.tup [.nm 17, .nm 18]) (dYes) (dCB bTup (dCons (dLc (dIRng1 (dCons (dC (.int 3)) (dNil))) (.nm 20) (dYes) (dIf (dTest (dOp dEq (dVar 20) (dVar 18))) (dOp dAdd (dVar 17) (dC (.int 1))) (dC .non)) [20]) (dNil))) [17, 18]) (dName 3)) (dRet (dOp dEq (dCall 2 sp_first_words (dCons (dTup (dCons (dC (.str [97, 98, 99])) (dCons (dCB bTup (dCons (dOp dAdd (dVar 3) (dLst (dCons (dTup (dCons (dC .non) (dCons (dC .non) (dCons (dC .non) (dNil))))) (dNil)))) (dNil))) (dCons (dTup (dCons (dC (.int 5)) (dNil))) (dNil))))) (dCons (dC (.int 3)) (dNil)))) (dLst (dCons (dC (.str [97, 99, 98, 97, 99])) (dNil)))))))
theorem st_law (a0 : D) : startD N_law [a0] = [some a0, none, none, none, none, none, none, none, none, none, none, none, none, none, none, none, none, none, none, none, none, none] := rfl
def t_law_1 : MS := dSeq (dFor (dIRng1 (dCons (dC (.int 2)) (dNil))) (dName 2) (dSeq (dAsg (dCall 2 sp__law_any_machine (dCons (dVar 1) (dCons (dC (.int 6)) (dNil)))) (dName 4)) (dSeq (dAsg (dIf (dTest (dOp dLt (dCB bLen (dCons (dOp dIx (dVar 4) (dC (.int 0))) (dNil))) (dC (.int 3)))) (dVar 4) (dCall 2 sp__law_any_machine (dCons (dVar 1) (dCons (dC (.int 4)) (dNil))))) (dName 4)) (dSeq (dAsg (dTup (dCons (dCB bRepr (dCons (dVar 4) (dNil))) (dCons (dOp dIx (dVar 4) (dC (.int 0))) (dNil)))) (dgTup 2 (dgCons (dName 13) (dgCons (dName 14) (dgNil))))) (dSeq (dAsg (dCall 3 sp__law_any_path (dCons (dVar 1) (dCons (dVar 4) (dCons (dC (.int 200)) (dNil))))) (dName 5)) (dSeq (dAsg (dLst (dCons (dC (.str [])) (dCons (dVar 5) (dCons (dSl (dVar 5) (dNoPart) (dPart (dC (.int 199)))) (dCons (dOp dAdd (dVar 5) (dOp dIx (dVar 14) (dC (.int 0)))) (dCons (dCall 3 sp__law_any_path (dCons (dVar 1) (dCons (dVar 4) (dCons (dC (.int 7)) (dNil))))) (dNil))))))) (dName 6)) (dSeq (dFor (dIRng1 (dCons (dC (.int 4)) (dNil))) (dName 7) (dDrop (dMt "list" mAppend (dVar 6) (dCons (dMt "str" mJoin (dC (.str [])) (dCons (dLc (dIRng1 (dCons (dCall 2 sp__law_take (dCons (dVar 1) (dCons (dC (.int 9)) (dNil)))) (dNil))) (.nm 21) (dYes) (dCall 2 sp__law_one_of (dCons (dVar 1) (dCons (dVar 14) (dNil)))) [21]) (dNil))) (dNil))))) (dSeq (dFor (dISeq (dVar 6)) (dName 8) (dIfS (dAnd (dTest (dOp dLe (dCB bLen (dCons (dVar 8) (dNil))) (dC (.int 200)))) (dTest (dOp dNe (dCB bRepr (dCons (dCall 2 sp_has_word (dCons (dVar 4) (dCons (dVar 8) (dNil)))) (dNil))) (dCB bRepr (dCons (dCall 2 sp__law_has (dCons (dVar 4) (dCons (dVar 8) (dNil)))) (dNil)))))) (dRet (dC (.bl false))) (dNext))) (dSeq (dFor (dISeq (dLst (dCons (dC (.int 0)) (dCons (dC (.int 1)) (dCons (dC (.int 40)) (dCons (dCall 2 sp__law_take (dCons (dVar 1) (dCons (dC (.int 41)) (dNil)))) (dNil))))))) (dName 9) (dSeq (dAsg (dCall 2 sp__law_firsts (dCons (dVar 4) (dCons (dVar 9) (dNil)))) (dName 15)) (dFor (dIRng1 (dCons (dC (.int 2)) (dNil))) (dName 7) (dSeq (dAsg (dCall 2 sp_first_words (dCons (dVar 4) (dCons (dVar 9) (dNil)))) (dName 16)) (dSeq (dIfS (dTest (dOp dNe (dCB bRepr (dCons (dVar 16) (dNil))) (dCB bRepr (dCons (dVar 15) (dNil))))) (dRet (dC (.bl false))) (dNext)) (dDrop (dMt "list" mAppend (dVar 16) (dCons (dC .non) (dNil))))))))) (dSeq (dAsg (dOp dIx (dLc (dISeq (dC (.str [97, 98, 99, 100, 120, 121, 122]))) (.nm 19) (dTest (dOp (dIn true) (dVar 19) (dVar 14))) (dVar 19) [19]) (dC (.int 0))) (dName 10)) (dSeq (dAsg (dLst (dCons (dC .non) (dCons (dC (.int 1)) (dCons (dOp dMul (dOp dIx (dVar 14) (dC (.int 0))) (dC (.int 201))) (dCons (dVar 10) (dCons (dOp dAdd (dOp dIx (dVar 14) (dC (.int 0))) (dVar 10)) (dCons (dLst (dNil)) (dCons (dTup (dCons (dOp dIx (dVar 14) (dC (.int 0))) (dNil))) (dCons (dC (.str [63])) (dCons (dC (.str [32])) (dCons (dDnew) (dNil)))))))))))) (dName 11)) (dSeq (dFor (dISeq (dOp dAdd (dVar 11) (dLst (dCons (dMt0 "str" mUpper (dOp dIx (dVar 14) (dC (.int 0)))) (dNil))))) (dName 12) (dIfS (dTest (dOp dNe (dCat [.tear, .machine, .word, .count] [(.word, [119, 111, 114, 100]), (.count, [99, 111, 117, 110, 116]), (.tear, [111, 100, 100])] [110, 111, 110, 101] (dCall 2 sp_has_word (dCons (dVar 4) (dCons (dVar 12) (dNil))))) (dC (.str [119, 111, 114, 100])))) (dRet (dC (.bl false))) (dNext))) (dSeq (dFor (dISeq (dLst (dCons (dC .non) (dCons (dNeg (dC (.int 1))) (dCons (dC (.int 41)) (dCons (dC (.bl true)) (dCons (dC (.bl false)) (dCons (dC (.str [49])) (dCons (dTup (dCons (dC (.int 1)) (dNil))) (dNil)))))))))) (dName 12) (dIfS (dTest (dOp dNe (dCat [.tear, .machine, .word, .count] [(.word, [119, 111, 114, 100]), (.count, [99, 111, 117, 110, 116]), (.tear, [111, 100, 100])] [110, 111, 110, 101] (dCall 2 sp_first_words (dCons (dVar 4) (dCons (dVar 12) (dNil))))) (dC (.str [99, 111, 117, 110, 116])))) (dRet (dC (.bl false))) (dNext))) (dIfS (dTest (dOp dNe (dCB bRepr (dCons (dVar 4) (dNil))) (dVar 13))) (dRet (dC (.bl false))) (dNext))))))))))))))) (dSeq (dAsg (dLc (dIEnum (dCons (dLst (dCons (dC (.int 0)) (dCons (dC (.int 2)) (dCons (dC (.int 1)) (dCons (dC (.int 0)) (dCons (dC (.int 2)) (dNil))))))) (dNil))) (.tup [.nm 17, .nm 18]) (dYes) (dCB bTup (dCons (dLc (dIRng1 (dCons (dC (.int 3)) (dNil))) (.nm 20) (dYes) (dIf (dTest (dOp dEq (dVar 20) (dVar 18))) (dOp dAdd (dVar 17) (dC (.int 1))) (dC .non)) [20]) (dNil))) [17, 18]) (dName 3)) (dRet (dOp dEq (dCall 2 sp_first_words (dCons (dTup (dCons (dC (.str [97, 98, 99])) (dCons (dCB bTup (dCons (dOp dAdd (dVar 3) (dLst (dCons (dTup (dCons (dC .non) (dCons (dC .non) (dCons (dC .non) (dNil))))) (dNil)))) (dNil))) (dCons (dTup (dCons (dC (.int 5)) (dNil))) (dNil))))) (dCons (dC (.int 3)) (dNil)))) (dLst (dCons (dC (.str [97, 99, 98, 97, 99])) (dNil))))))
def t_law_2 : MS := dSeq (dAsg (dLc (dIEnum (dCons (dLst (dCons (dC (.int 0)) (dCons (dC (.int 2)) (dCons (dC (.int 1)) (dCons (dC (.int 0)) (dCons (dC (.int 2)) (dNil))))))) (dNil))) (.tup [.nm 17, .nm 18]) (dYes) (dCB bTup (dCons (dLc (dIRng1 (dCons (dC (.int 3)) (dNil))) (.nm 20) (dYes) (dIf (dTest (dOp dEq (dVar 20) (dVar 18))) (dOp dAdd (dVar 17) (dC (.int 1))) (dC .non)) [20]) (dNil))) [17, 18]) (dName 3)) (dRet (dOp dEq (dCall 2 sp_first_words (dCons (dTup (dCons (dC (.str [97, 98, 99])) (dCons (dCB bTup (dCons (dOp dAdd (dVar 3) (dLst (dCons (dTup (dCons (dC .non) (dCons (dC .non) (dCons (dC .non) (dNil))))) (dNil)))) (dNil))) (dCons (dTup (dCons (dC (.int 5)) (dNil))) (dNil))))) (dCons (dC (.int 3)) (dNil)))) (dLst (dCons (dC (.str [97, 99, 98, 97, 99])) (dNil)))))
def t_law_3 : MS := dRet (dOp dEq (dCall 2 sp_first_words (dCons (dTup (dCons (dC (.str [97, 98, 99])) (dCons (dCB bTup (dCons (dOp dAdd (dVar 3) (dLst (dCons (dTup (dCons (dC .non) (dCons (dC .non) (dCons (dC .non) (dNil))))) (dNil)))) (dNil))) (dCons (dTup (dCons (dC (.int 5)) (dNil))) (dNil))))) (dCons (dC (.int 3)) (dNil)))) (dLst (dCons (dC (.str [97, 99, 98, 97, 99])) (dNil))))
def u_law_1_1 : MS := dSeq (dAsg (dIf (dTest (dOp dLt (dCB bLen (dCons (dOp dIx (dVar 4) (dC (.int 0))) (dNil))) (dC (.int 3)))) (dVar 4) (dCall 2 sp__law_any_machine (dCons (dVar 1) (dCons (dC (.int 4)) (dNil))))) (dName 4)) (dSeq (dAsg (dTup (dCons (dCB bRepr (dCons (dVar 4) (dNil))) (dCons (dOp dIx (dVar 4) (dC (.int 0))) (dNil)))) (dgTup 2 (dgCons (dName 13) (dgCons (dName 14) (dgNil))))) (dSeq (dAsg (dCall 3 sp__law_any_path (dCons (dVar 1) (dCons (dVar 4) (dCons (dC (.int 200)) (dNil))))) (dName 5)) (dSeq (dAsg (dLst (dCons (dC (.str [])) (dCons (dVar 5) (dCons (dSl (dVar 5) (dNoPart) (dPart (dC (.int 199)))) (dCons (dOp dAdd (dVar 5) (dOp dIx (dVar 14) (dC (.int 0)))) (dCons (dCall 3 sp__law_any_path (dCons (dVar 1) (dCons (dVar 4) (dCons (dC (.int 7)) (dNil))))) (dNil))))))) (dName 6)) (dSeq (dFor (dIRng1 (dCons (dC (.int 4)) (dNil))) (dName 7) (dDrop (dMt "list" mAppend (dVar 6) (dCons (dMt "str" mJoin (dC (.str [])) (dCons (dLc (dIRng1 (dCons (dCall 2 sp__law_take (dCons (dVar 1) (dCons (dC (.int 9)) (dNil)))) (dNil))) (.nm 21) (dYes) (dCall 2 sp__law_one_of (dCons (dVar 1) (dCons (dVar 14) (dNil)))) [21]) (dNil))) (dNil))))) (dSeq (dFor (dISeq (dVar 6)) (dName 8) (dIfS (dAnd (dTest (dOp dLe (dCB bLen (dCons (dVar 8) (dNil))) (dC (.int 200)))) (dTest (dOp dNe (dCB bRepr (dCons (dCall 2 sp_has_word (dCons (dVar 4) (dCons (dVar 8) (dNil)))) (dNil))) (dCB bRepr (dCons (dCall 2 sp__law_has (dCons (dVar 4) (dCons (dVar 8) (dNil)))) (dNil)))))) (dRet (dC (.bl false))) (dNext))) (dSeq (dFor (dISeq (dLst (dCons (dC (.int 0)) (dCons (dC (.int 1)) (dCons (dC (.int 40)) (dCons (dCall 2 sp__law_take (dCons (dVar 1) (dCons (dC (.int 41)) (dNil)))) (dNil))))))) (dName 9) (dSeq (dAsg (dCall 2 sp__law_firsts (dCons (dVar 4) (dCons (dVar 9) (dNil)))) (dName 15)) (dFor (dIRng1 (dCons (dC (.int 2)) (dNil))) (dName 7) (dSeq (dAsg (dCall 2 sp_first_words (dCons (dVar 4) (dCons (dVar 9) (dNil)))) (dName 16)) (dSeq (dIfS (dTest (dOp dNe (dCB bRepr (dCons (dVar 16) (dNil))) (dCB bRepr (dCons (dVar 15) (dNil))))) (dRet (dC (.bl false))) (dNext)) (dDrop (dMt "list" mAppend (dVar 16) (dCons (dC .non) (dNil))))))))) (dSeq (dAsg (dOp dIx (dLc (dISeq (dC (.str [97, 98, 99, 100, 120, 121, 122]))) (.nm 19) (dTest (dOp (dIn true) (dVar 19) (dVar 14))) (dVar 19) [19]) (dC (.int 0))) (dName 10)) (dSeq (dAsg (dLst (dCons (dC .non) (dCons (dC (.int 1)) (dCons (dOp dMul (dOp dIx (dVar 14) (dC (.int 0))) (dC (.int 201))) (dCons (dVar 10) (dCons (dOp dAdd (dOp dIx (dVar 14) (dC (.int 0))) (dVar 10)) (dCons (dLst (dNil)) (dCons (dTup (dCons (dOp dIx (dVar 14) (dC (.int 0))) (dNil))) (dCons (dC (.str [63])) (dCons (dC (.str [32])) (dCons (dDnew) (dNil)))))))))))) (dName 11)) (dSeq (dFor (dISeq (dOp dAdd (dVar 11) (dLst (dCons (dMt0 "str" mUpper (dOp dIx (dVar 14) (dC (.int 0)))) (dNil))))) (dName 12) (dIfS (dTest (dOp dNe (dCat [.tear, .machine, .word, .count] [(.word, [119, 111, 114, 100]), (.count, [99, 111, 117, 110, 116]), (.tear, [111, 100, 100])] [110, 111, 110, 101] (dCall 2 sp_has_word (dCons (dVar 4) (dCons (dVar 12) (dNil))))) (dC (.str [119, 111, 114, 100])))) (dRet (dC (.bl false))) (dNext))) (dSeq (dFor (dISeq (dLst (dCons (dC .non) (dCons (dNeg (dC (.int 1))) (dCons (dC (.int 41)) (dCons (dC (.bl true)) (dCons (dC (.bl false)) (dCons (dC (.str [49])) (dCons (dTup (dCons (dC (.int 1)) (dNil))) (dNil)))))))))) (dName 12) (dIfS (dTest (dOp dNe (dCat [.tear, .machine, .word, .count] [(.word, [119, 111, 114, 100]), (.count, [99, 111, 117, 110, 116]), (.tear, [111, 100, 100])] [110, 111, 110, 101] (dCall 2 sp_first_words (dCons (dVar 4) (dCons (dVar 12) (dNil))))) (dC (.str [99, 111, 117, 110, 116])))) (dRet (dC (.bl false))) (dNext))) (dIfS (dTest (dOp dNe (dCB bRepr (dCons (dVar 4) (dNil))) (dVar 13))) (dRet (dC (.bl false))) (dNext))))))))))))
def u_law_1_2 : MS := dSeq (dAsg (dTup (dCons (dCB bRepr (dCons (dVar 4) (dNil))) (dCons (dOp dIx (dVar 4) (dC (.int 0))) (dNil)))) (dgTup 2 (dgCons (dName 13) (dgCons (dName 14) (dgNil))))) (dSeq (dAsg (dCall 3 sp__law_any_path (dCons (dVar 1) (dCons (dVar 4) (dCons (dC (.int 200)) (dNil))))) (dName 5)) (dSeq (dAsg (dLst (dCons (dC (.str [])) (dCons (dVar 5) (dCons (dSl (dVar 5) (dNoPart) (dPart (dC (.int 199)))) (dCons (dOp dAdd (dVar 5) (dOp dIx (dVar 14) (dC (.int 0)))) (dCons (dCall 3 sp__law_any_path (dCons (dVar 1) (dCons (dVar 4) (dCons (dC (.int 7)) (dNil))))) (dNil))))))) (dName 6)) (dSeq (dFor (dIRng1 (dCons (dC (.int 4)) (dNil))) (dName 7) (dDrop (dMt "list" mAppend (dVar 6) (dCons (dMt "str" mJoin (dC (.str [])) (dCons (dLc (dIRng1 (dCons (dCall 2 sp__law_take (dCons (dVar 1) (dCons (dC (.int 9)) (dNil)))) (dNil))) (.nm 21) (dYes) (dCall 2 sp__law_one_of (dCons (dVar 1) (dCons (dVar 14) (dNil)))) [21]) (dNil))) (dNil))))) (dSeq (dFor (dISeq (dVar 6)) (dName 8) (dIfS (dAnd (dTest (dOp dLe (dCB bLen (dCons (dVar 8) (dNil))) (dC (.int 200)))) (dTest (dOp dNe (dCB bRepr (dCons (dCall 2 sp_has_word (dCons (dVar 4) (dCons (dVar 8) (dNil)))) (dNil))) (dCB bRepr (dCons (dCall 2 sp__law_has (dCons (dVar 4) (dCons (dVar 8) (dNil)))) (dNil)))))) (dRet (dC (.bl false))) (dNext))) (dSeq (dFor (dISeq (dLst (dCons (dC (.int 0)) (dCons (dC (.int 1)) (dCons (dC (.int 40)) (dCons (dCall 2 sp__law_take (dCons (dVar 1) (dCons (dC (.int 41)) (dNil)))) (dNil))))))) (dName 9) (dSeq (dAsg (dCall 2 sp__law_firsts (dCons (dVar 4) (dCons (dVar 9) (dNil)))) (dName 15)) (dFor (dIRng1 (dCons (dC (.int 2)) (dNil))) (dName 7) (dSeq (dAsg (dCall 2 sp_first_words (dCons (dVar 4) (dCons (dVar 9) (dNil)))) (dName 16)) (dSeq (dIfS (dTest (dOp dNe (dCB bRepr (dCons (dVar 16) (dNil))) (dCB bRepr (dCons (dVar 15) (dNil))))) (dRet (dC (.bl false))) (dNext)) (dDrop (dMt "list" mAppend (dVar 16) (dCons (dC .non) (dNil))))))))) (dSeq (dAsg (dOp dIx (dLc (dISeq (dC (.str [97, 98, 99, 100, 120, 121, 122]))) (.nm 19) (dTest (dOp (dIn true) (dVar 19) (dVar 14))) (dVar 19) [19]) (dC (.int 0))) (dName 10)) (dSeq (dAsg (dLst (dCons (dC .non) (dCons (dC (.int 1)) (dCons (dOp dMul (dOp dIx (dVar 14) (dC (.int 0))) (dC (.int 201))) (dCons (dVar 10) (dCons (dOp dAdd (dOp dIx (dVar 14) (dC (.int 0))) (dVar 10)) (dCons (dLst (dNil)) (dCons (dTup (dCons (dOp dIx (dVar 14) (dC (.int 0))) (dNil))) (dCons (dC (.str [63])) (dCons (dC (.str [32])) (dCons (dDnew) (dNil)))))))))))) (dName 11)) (dSeq (dFor (dISeq (dOp dAdd (dVar 11) (dLst (dCons (dMt0 "str" mUpper (dOp dIx (dVar 14) (dC (.int 0)))) (dNil))))) (dName 12) (dIfS (dTest (dOp dNe (dCat [.tear, .machine, .word, .count] [(.word, [119, 111, 114, 100]), (.count, [99, 111, 117, 110, 116]), (.tear, [111, 100, 100])] [110, 111, 110, 101] (dCall 2 sp_has_word (dCons (dVar 4) (dCons (dVar 12) (dNil))))) (dC (.str [119, 111, 114, 100])))) (dRet (dC (.bl false))) (dNext))) (dSeq (dFor (dISeq (dLst (dCons (dC .non) (dCons (dNeg (dC (.int 1))) (dCons (dC (.int 41)) (dCons (dC (.bl true)) (dCons (dC (.bl false)) (dCons (dC (.str [49])) (dCons (dTup (dCons (dC (.int 1)) (dNil))) (dNil)))))))))) (dName 12) (dIfS (dTest (dOp dNe (dCat [.tear, .machine, .word, .count] [(.word, [119, 111, 114, 100]), (.count, [99, 111, 117, 110, 116]), (.tear, [111, 100, 100])] [110, 111, 110, 101] (dCall 2 sp_first_words (dCons (dVar 4) (dCons (dVar 12) (dNil))))) (dC (.str [99, 111, 117, 110, 116])))) (dRet (dC (.bl false))) (dNext))) (dIfS (dTest (dOp dNe (dCB bRepr (dCons (dVar 4) (dNil))) (dVar 13))) (dRet (dC (.bl false))) (dNext)))))))))))
def u_law_1_3 : MS := dSeq (dAsg (dCall 3 sp__law_any_path (dCons (dVar 1) (dCons (dVar 4) (dCons (dC (.int 200)) (dNil))))) (dName 5)) (dSeq (dAsg (dLst (dCons (dC (.str [])) (dCons (dVar 5) (dCons (dSl (dVar 5) (dNoPart) (dPart (dC (.int 199)))) (dCons (dOp dAdd (dVar 5) (dOp dIx (dVar 14) (dC (.int 0)))) (dCons (dCall 3 sp__law_any_path (dCons (dVar 1) (dCons (dVar 4) (dCons (dC (.int 7)) (dNil))))) (dNil))))))) (dName 6)) (dSeq (dFor (dIRng1 (dCons (dC (.int 4)) (dNil))) (dName 7) (dDrop (dMt "list" mAppend (dVar 6) (dCons (dMt "str" mJoin (dC (.str [])) (dCons (dLc (dIRng1 (dCons (dCall 2 sp__law_take (dCons (dVar 1) (dCons (dC (.int 9)) (dNil)))) (dNil))) (.nm 21) (dYes) (dCall 2 sp__law_one_of (dCons (dVar 1) (dCons (dVar 14) (dNil)))) [21]) (dNil))) (dNil))))) (dSeq (dFor (dISeq (dVar 6)) (dName 8) (dIfS (dAnd (dTest (dOp dLe (dCB bLen (dCons (dVar 8) (dNil))) (dC (.int 200)))) (dTest (dOp dNe (dCB bRepr (dCons (dCall 2 sp_has_word (dCons (dVar 4) (dCons (dVar 8) (dNil)))) (dNil))) (dCB bRepr (dCons (dCall 2 sp__law_has (dCons (dVar 4) (dCons (dVar 8) (dNil)))) (dNil)))))) (dRet (dC (.bl false))) (dNext))) (dSeq (dFor (dISeq (dLst (dCons (dC (.int 0)) (dCons (dC (.int 1)) (dCons (dC (.int 40)) (dCons (dCall 2 sp__law_take (dCons (dVar 1) (dCons (dC (.int 41)) (dNil)))) (dNil))))))) (dName 9) (dSeq (dAsg (dCall 2 sp__law_firsts (dCons (dVar 4) (dCons (dVar 9) (dNil)))) (dName 15)) (dFor (dIRng1 (dCons (dC (.int 2)) (dNil))) (dName 7) (dSeq (dAsg (dCall 2 sp_first_words (dCons (dVar 4) (dCons (dVar 9) (dNil)))) (dName 16)) (dSeq (dIfS (dTest (dOp dNe (dCB bRepr (dCons (dVar 16) (dNil))) (dCB bRepr (dCons (dVar 15) (dNil))))) (dRet (dC (.bl false))) (dNext)) (dDrop (dMt "list" mAppend (dVar 16) (dCons (dC .non) (dNil))))))))) (dSeq (dAsg (dOp dIx (dLc (dISeq (dC (.str [97, 98, 99, 100, 120, 121, 122]))) (.nm 19) (dTest (dOp (dIn true) (dVar 19) (dVar 14))) (dVar 19) [19]) (dC (.int 0))) (dName 10)) (dSeq (dAsg (dLst (dCons (dC .non) (dCons (dC (.int 1)) (dCons (dOp dMul (dOp dIx (dVar 14) (dC (.int 0))) (dC (.int 201))) (dCons (dVar 10) (dCons (dOp dAdd (dOp dIx (dVar 14) (dC (.int 0))) (dVar 10)) (dCons (dLst (dNil)) (dCons (dTup (dCons (dOp dIx (dVar 14) (dC (.int 0))) (dNil))) (dCons (dC (.str [63])) (dCons (dC (.str [32])) (dCons (dDnew) (dNil)))))))))))) (dName 11)) (dSeq (dFor (dISeq (dOp dAdd (dVar 11) (dLst (dCons (dMt0 "str" mUpper (dOp dIx (dVar 14) (dC (.int 0)))) (dNil))))) (dName 12) (dIfS (dTest (dOp dNe (dCat [.tear, .machine, .word, .count] [(.word, [119, 111, 114, 100]), (.count, [99, 111, 117, 110, 116]), (.tear, [111, 100, 100])] [110, 111, 110, 101] (dCall 2 sp_has_word (dCons (dVar 4) (dCons (dVar 12) (dNil))))) (dC (.str [119, 111, 114, 100])))) (dRet (dC (.bl false))) (dNext))) (dSeq (dFor (dISeq (dLst (dCons (dC .non) (dCons (dNeg (dC (.int 1))) (dCons (dC (.int 41)) (dCons (dC (.bl true)) (dCons (dC (.bl false)) (dCons (dC (.str [49])) (dCons (dTup (dCons (dC (.int 1)) (dNil))) (dNil)))))))))) (dName 12) (dIfS (dTest (dOp dNe (dCat [.tear, .machine, .word, .count] [(.word, [119, 111, 114, 100]), (.count, [99, 111, 117, 110, 116]), (.tear, [111, 100, 100])] [110, 111, 110, 101] (dCall 2 sp_first_words (dCons (dVar 4) (dCons (dVar 12) (dNil))))) (dC (.str [99, 111, 117, 110, 116])))) (dRet (dC (.bl false))) (dNext))) (dIfS (dTest (dOp dNe (dCB bRepr (dCons (dVar 4) (dNil))) (dVar 13))) (dRet (dC (.bl false))) (dNext))))))))))
def u_law_1_4 : MS := dSeq (dAsg (dLst (dCons (dC (.str [])) (dCons (dVar 5) (dCons (dSl (dVar 5) (dNoPart) (dPart (dC (.int 199)))) (dCons (dOp dAdd (dVar 5) (dOp dIx (dVar 14) (dC (.int 0)))) (dCons (dCall 3 sp__law_any_path (dCons (dVar 1) (dCons (dVar 4) (dCons (dC (.int 7)) (dNil))))) (dNil))))))) (dName 6)) (dSeq (dFor (dIRng1 (dCons (dC (.int 4)) (dNil))) (dName 7) (dDrop (dMt "list" mAppend (dVar 6) (dCons (dMt "str" mJoin (dC (.str [])) (dCons (dLc (dIRng1 (dCons (dCall 2 sp__law_take (dCons (dVar 1) (dCons (dC (.int 9)) (dNil)))) (dNil))) (.nm 21) (dYes) (dCall 2 sp__law_one_of (dCons (dVar 1) (dCons (dVar 14) (dNil)))) [21]) (dNil))) (dNil))))) (dSeq (dFor (dISeq (dVar 6)) (dName 8) (dIfS (dAnd (dTest (dOp dLe (dCB bLen (dCons (dVar 8) (dNil))) (dC (.int 200)))) (dTest (dOp dNe (dCB bRepr (dCons (dCall 2 sp_has_word (dCons (dVar 4) (dCons (dVar 8) (dNil)))) (dNil))) (dCB bRepr (dCons (dCall 2 sp__law_has (dCons (dVar 4) (dCons (dVar 8) (dNil)))) (dNil)))))) (dRet (dC (.bl false))) (dNext))) (dSeq (dFor (dISeq (dLst (dCons (dC (.int 0)) (dCons (dC (.int 1)) (dCons (dC (.int 40)) (dCons (dCall 2 sp__law_take (dCons (dVar 1) (dCons (dC (.int 41)) (dNil)))) (dNil))))))) (dName 9) (dSeq (dAsg (dCall 2 sp__law_firsts (dCons (dVar 4) (dCons (dVar 9) (dNil)))) (dName 15)) (dFor (dIRng1 (dCons (dC (.int 2)) (dNil))) (dName 7) (dSeq (dAsg (dCall 2 sp_first_words (dCons (dVar 4) (dCons (dVar 9) (dNil)))) (dName 16)) (dSeq (dIfS (dTest (dOp dNe (dCB bRepr (dCons (dVar 16) (dNil))) (dCB bRepr (dCons (dVar 15) (dNil))))) (dRet (dC (.bl false))) (dNext)) (dDrop (dMt "list" mAppend (dVar 16) (dCons (dC .non) (dNil))))))))) (dSeq (dAsg (dOp dIx (dLc (dISeq (dC (.str [97, 98, 99, 100, 120, 121, 122]))) (.nm 19) (dTest (dOp (dIn true) (dVar 19) (dVar 14))) (dVar 19) [19]) (dC (.int 0))) (dName 10)) (dSeq (dAsg (dLst (dCons (dC .non) (dCons (dC (.int 1)) (dCons (dOp dMul (dOp dIx (dVar 14) (dC (.int 0))) (dC (.int 201))) (dCons (dVar 10) (dCons (dOp dAdd (dOp dIx (dVar 14) (dC (.int 0))) (dVar 10)) (dCons (dLst (dNil)) (dCons (dTup (dCons (dOp dIx (dVar 14) (dC (.int 0))) (dNil))) (dCons (dC (.str [63])) (dCons (dC (.str [32])) (dCons (dDnew) (dNil)))))))))))) (dName 11)) (dSeq (dFor (dISeq (dOp dAdd (dVar 11) (dLst (dCons (dMt0 "str" mUpper (dOp dIx (dVar 14) (dC (.int 0)))) (dNil))))) (dName 12) (dIfS (dTest (dOp dNe (dCat [.tear, .machine, .word, .count] [(.word, [119, 111, 114, 100]), (.count, [99, 111, 117, 110, 116]), (.tear, [111, 100, 100])] [110, 111, 110, 101] (dCall 2 sp_has_word (dCons (dVar 4) (dCons (dVar 12) (dNil))))) (dC (.str [119, 111, 114, 100])))) (dRet (dC (.bl false))) (dNext))) (dSeq (dFor (dISeq (dLst (dCons (dC .non) (dCons (dNeg (dC (.int 1))) (dCons (dC (.int 41)) (dCons (dC (.bl true)) (dCons (dC (.bl false)) (dCons (dC (.str [49])) (dCons (dTup (dCons (dC (.int 1)) (dNil))) (dNil)))))))))) (dName 12) (dIfS (dTest (dOp dNe (dCat [.tear, .machine, .word, .count] [(.word, [119, 111, 114, 100]), (.count, [99, 111, 117, 110, 116]), (.tear, [111, 100, 100])] [110, 111, 110, 101] (dCall 2 sp_first_words (dCons (dVar 4) (dCons (dVar 12) (dNil))))) (dC (.str [99, 111, 117, 110, 116])))) (dRet (dC (.bl false))) (dNext))) (dIfS (dTest (dOp dNe (dCB bRepr (dCons (dVar 4) (dNil))) (dVar 13))) (dRet (dC (.bl false))) (dNext)))))))))
def u_law_1_5 : MS := dSeq (dFor (dIRng1 (dCons (dC (.int 4)) (dNil))) (dName 7) (dDrop (dMt "list" mAppend (dVar 6) (dCons (dMt "str" mJoin (dC (.str [])) (dCons (dLc (dIRng1 (dCons (dCall 2 sp__law_take (dCons (dVar 1) (dCons (dC (.int 9)) (dNil)))) (dNil))) (.nm 21) (dYes) (dCall 2 sp__law_one_of (dCons (dVar 1) (dCons (dVar 14) (dNil)))) [21]) (dNil))) (dNil))))) (dSeq (dFor (dISeq (dVar 6)) (dName 8) (dIfS (dAnd (dTest (dOp dLe (dCB bLen (dCons (dVar 8) (dNil))) (dC (.int 200)))) (dTest (dOp dNe (dCB bRepr (dCons (dCall 2 sp_has_word (dCons (dVar 4) (dCons (dVar 8) (dNil)))) (dNil))) (dCB bRepr (dCons (dCall 2 sp__law_has (dCons (dVar 4) (dCons (dVar 8) (dNil)))) (dNil)))))) (dRet (dC (.bl false))) (dNext))) (dSeq (dFor (dISeq (dLst (dCons (dC (.int 0)) (dCons (dC (.int 1)) (dCons (dC (.int 40)) (dCons (dCall 2 sp__law_take (dCons (dVar 1) (dCons (dC (.int 41)) (dNil)))) (dNil))))))) (dName 9) (dSeq (dAsg (dCall 2 sp__law_firsts (dCons (dVar 4) (dCons (dVar 9) (dNil)))) (dName 15)) (dFor (dIRng1 (dCons (dC (.int 2)) (dNil))) (dName 7) (dSeq (dAsg (dCall 2 sp_first_words (dCons (dVar 4) (dCons (dVar 9) (dNil)))) (dName 16)) (dSeq (dIfS (dTest (dOp dNe (dCB bRepr (dCons (dVar 16) (dNil))) (dCB bRepr (dCons (dVar 15) (dNil))))) (dRet (dC (.bl false))) (dNext)) (dDrop (dMt "list" mAppend (dVar 16) (dCons (dC .non) (dNil))))))))) (dSeq (dAsg (dOp dIx (dLc (dISeq (dC (.str [97, 98, 99, 100, 120, 121, 122]))) (.nm 19) (dTest (dOp (dIn true) (dVar 19) (dVar 14))) (dVar 19) [19]) (dC (.int 0))) (dName 10)) (dSeq (dAsg (dLst (dCons (dC .non) (dCons (dC (.int 1)) (dCons (dOp dMul (dOp dIx (dVar 14) (dC (.int 0))) (dC (.int 201))) (dCons (dVar 10) (dCons (dOp dAdd (dOp dIx (dVar 14) (dC (.int 0))) (dVar 10)) (dCons (dLst (dNil)) (dCons (dTup (dCons (dOp dIx (dVar 14) (dC (.int 0))) (dNil))) (dCons (dC (.str [63])) (dCons (dC (.str [32])) (dCons (dDnew) (dNil)))))))))))) (dName 11)) (dSeq (dFor (dISeq (dOp dAdd (dVar 11) (dLst (dCons (dMt0 "str" mUpper (dOp dIx (dVar 14) (dC (.int 0)))) (dNil))))) (dName 12) (dIfS (dTest (dOp dNe (dCat [.tear, .machine, .word, .count] [(.word, [119, 111, 114, 100]), (.count, [99, 111, 117, 110, 116]), (.tear, [111, 100, 100])] [110, 111, 110, 101] (dCall 2 sp_has_word (dCons (dVar 4) (dCons (dVar 12) (dNil))))) (dC (.str [119, 111, 114, 100])))) (dRet (dC (.bl false))) (dNext))) (dSeq (dFor (dISeq (dLst (dCons (dC .non) (dCons (dNeg (dC (.int 1))) (dCons (dC (.int 41)) (dCons (dC (.bl true)) (dCons (dC (.bl false)) (dCons (dC (.str [49])) (dCons (dTup (dCons (dC (.int 1)) (dNil))) (dNil)))))))))) (dName 12) (dIfS (dTest (dOp dNe (dCat [.tear, .machine, .word, .count] [(.word, [119, 111, 114, 100]), (.count, [99, 111, 117, 110, 116]), (.tear, [111, 100, 100])] [110, 111, 110, 101] (dCall 2 sp_first_words (dCons (dVar 4) (dCons (dVar 12) (dNil))))) (dC (.str [99, 111, 117, 110, 116])))) (dRet (dC (.bl false))) (dNext))) (dIfS (dTest (dOp dNe (dCB bRepr (dCons (dVar 4) (dNil))) (dVar 13))) (dRet (dC (.bl false))) (dNext))))))))
def u_law_1_6 : MS := dSeq (dFor (dISeq (dVar 6)) (dName 8) (dIfS (dAnd (dTest (dOp dLe (dCB bLen (dCons (dVar 8) (dNil))) (dC (.int 200)))) (dTest (dOp dNe (dCB bRepr (dCons (dCall 2 sp_has_word (dCons (dVar 4) (dCons (dVar 8) (dNil)))) (dNil))) (dCB bRepr (dCons (dCall 2 sp__law_has (dCons (dVar 4) (dCons (dVar 8) (dNil)))) (dNil)))))) (dRet (dC (.bl false))) (dNext))) (dSeq (dFor (dISeq (dLst (dCons (dC (.int 0)) (dCons (dC (.int 1)) (dCons (dC (.int 40)) (dCons (dCall 2 sp__law_take (dCons (dVar 1) (dCons (dC (.int 41)) (dNil)))) (dNil))))))) (dName 9) (dSeq (dAsg (dCall 2 sp__law_firsts (dCons (dVar 4) (dCons (dVar 9) (dNil)))) (dName 15)) (dFor (dIRng1 (dCons (dC (.int 2)) (dNil))) (dName 7) (dSeq (dAsg (dCall 2 sp_first_words (dCons (dVar 4) (dCons (dVar 9) (dNil)))) (dName 16)) (dSeq (dIfS (dTest (dOp dNe (dCB bRepr (dCons (dVar 16) (dNil))) (dCB bRepr (dCons (dVar 15) (dNil))))) (dRet (dC (.bl false))) (dNext)) (dDrop (dMt "list" mAppend (dVar 16) (dCons (dC .non) (dNil))))))))) (dSeq (dAsg (dOp dIx (dLc (dISeq (dC (.str [97, 98, 99, 100, 120, 121, 122]))) (.nm 19) (dTest (dOp (dIn true) (dVar 19) (dVar 14))) (dVar 19) [19]) (dC (.int 0))) (dName 10)) (dSeq (dAsg (dLst (dCons (dC .non) (dCons (dC (.int 1)) (dCons (dOp dMul (dOp dIx (dVar 14) (dC (.int 0))) (dC (.int 201))) (dCons (dVar 10) (dCons (dOp dAdd (dOp dIx (dVar 14) (dC (.int 0))) (dVar 10)) (dCons (dLst (dNil)) (dCons (dTup (dCons (dOp dIx (dVar 14) (dC (.int 0))) (dNil))) (dCons (dC (.str [63])) (dCons (dC (.str [32])) (dCons (dDnew) (dNil)))))))))))) (dName 11)) (dSeq (dFor (dISeq (dOp dAdd (dVar 11) (dLst (dCons (dMt0 "str" mUpper (dOp dIx (dVar 14) (dC (.int 0)))) (dNil))))) (dName 12) (dIfS (dTest (dOp dNe (dCat [.tear, .machine, .word, .count] [(.word, [119, 111, 114, 100]), (.count, [99, 111, 117, 110, 116]), (.tear, [111, 100, 100])] [110, 111, 110, 101] (dCall 2 sp_has_word (dCons (dVar 4) (dCons (dVar 12) (dNil))))) (dC (.str [119, 111, 114, 100])))) (dRet (dC (.bl false))) (dNext))) (dSeq (dFor (dISeq (dLst (dCons (dC .non) (dCons (dNeg (dC (.int 1))) (dCons (dC (.int 41)) (dCons (dC (.bl true)) (dCons (dC (.bl false)) (dCons (dC (.str [49])) (dCons (dTup (dCons (dC (.int 1)) (dNil))) (dNil)))))))))) (dName 12) (dIfS (dTest (dOp dNe (dCat [.tear, .machine, .word, .count] [(.word, [119, 111, 114, 100]), (.count, [99, 111, 117, 110, 116]), (.tear, [111, 100, 100])] [110, 111, 110, 101] (dCall 2 sp_first_words (dCons (dVar 4) (dCons (dVar 12) (dNil))))) (dC (.str [99, 111, 117, 110, 116])))) (dRet (dC (.bl false))) (dNext))) (dIfS (dTest (dOp dNe (dCB bRepr (dCons (dVar 4) (dNil))) (dVar 13))) (dRet (dC (.bl false))) (dNext)))))))
def u_law_1_7 : MS := dSeq (dFor (dISeq (dLst (dCons (dC (.int 0)) (dCons (dC (.int 1)) (dCons (dC (.int 40)) (dCons (dCall 2 sp__law_take (dCons (dVar 1) (dCons (dC (.int 41)) (dNil)))) (dNil))))))) (dName 9) (dSeq (dAsg (dCall 2 sp__law_firsts (dCons (dVar 4) (dCons (dVar 9) (dNil)))) (dName 15)) (dFor (dIRng1 (dCons (dC (.int 2)) (dNil))) (dName 7) (dSeq (dAsg (dCall 2 sp_first_words (dCons (dVar 4) (dCons (dVar 9) (dNil)))) (dName 16)) (dSeq (dIfS (dTest (dOp dNe (dCB bRepr (dCons (dVar 16) (dNil))) (dCB bRepr (dCons (dVar 15) (dNil))))) (dRet (dC (.bl false))) (dNext)) (dDrop (dMt "list" mAppend (dVar 16) (dCons (dC .non) (dNil))))))))) (dSeq (dAsg (dOp dIx (dLc (dISeq (dC (.str [97, 98, 99, 100, 120, 121, 122]))) (.nm 19) (dTest (dOp (dIn true) (dVar 19) (dVar 14))) (dVar 19) [19]) (dC (.int 0))) (dName 10)) (dSeq (dAsg (dLst (dCons (dC .non) (dCons (dC (.int 1)) (dCons (dOp dMul (dOp dIx (dVar 14) (dC (.int 0))) (dC (.int 201))) (dCons (dVar 10) (dCons (dOp dAdd (dOp dIx (dVar 14) (dC (.int 0))) (dVar 10)) (dCons (dLst (dNil)) (dCons (dTup (dCons (dOp dIx (dVar 14) (dC (.int 0))) (dNil))) (dCons (dC (.str [63])) (dCons (dC (.str [32])) (dCons (dDnew) (dNil)))))))))))) (dName 11)) (dSeq (dFor (dISeq (dOp dAdd (dVar 11) (dLst (dCons (dMt0 "str" mUpper (dOp dIx (dVar 14) (dC (.int 0)))) (dNil))))) (dName 12) (dIfS (dTest (dOp dNe (dCat [.tear, .machine, .word, .count] [(.word, [119, 111, 114, 100]), (.count, [99, 111, 117, 110, 116]), (.tear, [111, 100, 100])] [110, 111, 110, 101] (dCall 2 sp_has_word (dCons (dVar 4) (dCons (dVar 12) (dNil))))) (dC (.str [119, 111, 114, 100])))) (dRet (dC (.bl false))) (dNext))) (dSeq (dFor (dISeq (dLst (dCons (dC .non) (dCons (dNeg (dC (.int 1))) (dCons (dC (.int 41)) (dCons (dC (.bl true)) (dCons (dC (.bl false)) (dCons (dC (.str [49])) (dCons (dTup (dCons (dC (.int 1)) (dNil))) (dNil)))))))))) (dName 12) (dIfS (dTest (dOp dNe (dCat [.tear, .machine, .word, .count] [(.word, [119, 111, 114, 100]), (.count, [99, 111, 117, 110, 116]), (.tear, [111, 100, 100])] [110, 111, 110, 101] (dCall 2 sp_first_words (dCons (dVar 4) (dCons (dVar 12) (dNil))))) (dC (.str [99, 111, 117, 110, 116])))) (dRet (dC (.bl false))) (dNext))) (dIfS (dTest (dOp dNe (dCB bRepr (dCons (dVar 4) (dNil))) (dVar 13))) (dRet (dC (.bl false))) (dNext))))))
def u_law_1_8 : MS := dSeq (dAsg (dOp dIx (dLc (dISeq (dC (.str [97, 98, 99, 100, 120, 121, 122]))) (.nm 19) (dTest (dOp (dIn true) (dVar 19) (dVar 14))) (dVar 19) [19]) (dC (.int 0))) (dName 10)) (dSeq (dAsg (dLst (dCons (dC .non) (dCons (dC (.int 1)) (dCons (dOp dMul (dOp dIx (dVar 14) (dC (.int 0))) (dC (.int 201))) (dCons (dVar 10) (dCons (dOp dAdd (dOp dIx (dVar 14) (dC (.int 0))) (dVar 10)) (dCons (dLst (dNil)) (dCons (dTup (dCons (dOp dIx (dVar 14) (dC (.int 0))) (dNil))) (dCons (dC (.str [63])) (dCons (dC (.str [32])) (dCons (dDnew) (dNil)))))))))))) (dName 11)) (dSeq (dFor (dISeq (dOp dAdd (dVar 11) (dLst (dCons (dMt0 "str" mUpper (dOp dIx (dVar 14) (dC (.int 0)))) (dNil))))) (dName 12) (dIfS (dTest (dOp dNe (dCat [.tear, .machine, .word, .count] [(.word, [119, 111, 114, 100]), (.count, [99, 111, 117, 110, 116]), (.tear, [111, 100, 100])] [110, 111, 110, 101] (dCall 2 sp_has_word (dCons (dVar 4) (dCons (dVar 12) (dNil))))) (dC (.str [119, 111, 114, 100])))) (dRet (dC (.bl false))) (dNext))) (dSeq (dFor (dISeq (dLst (dCons (dC .non) (dCons (dNeg (dC (.int 1))) (dCons (dC (.int 41)) (dCons (dC (.bl true)) (dCons (dC (.bl false)) (dCons (dC (.str [49])) (dCons (dTup (dCons (dC (.int 1)) (dNil))) (dNil)))))))))) (dName 12) (dIfS (dTest (dOp dNe (dCat [.tear, .machine, .word, .count] [(.word, [119, 111, 114, 100]), (.count, [99, 111, 117, 110, 116]), (.tear, [111, 100, 100])] [110, 111, 110, 101] (dCall 2 sp_first_words (dCons (dVar 4) (dCons (dVar 12) (dNil))))) (dC (.str [99, 111, 117, 110, 116])))) (dRet (dC (.bl false))) (dNext))) (dIfS (dTest (dOp dNe (dCB bRepr (dCons (dVar 4) (dNil))) (dVar 13))) (dRet (dC (.bl false))) (dNext)))))
def u_law_1_9 : MS := dSeq (dAsg (dLst (dCons (dC .non) (dCons (dC (.int 1)) (dCons (dOp dMul (dOp dIx (dVar 14) (dC (.int 0))) (dC (.int 201))) (dCons (dVar 10) (dCons (dOp dAdd (dOp dIx (dVar 14) (dC (.int 0))) (dVar 10)) (dCons (dLst (dNil)) (dCons (dTup (dCons (dOp dIx (dVar 14) (dC (.int 0))) (dNil))) (dCons (dC (.str [63])) (dCons (dC (.str [32])) (dCons (dDnew) (dNil)))))))))))) (dName 11)) (dSeq (dFor (dISeq (dOp dAdd (dVar 11) (dLst (dCons (dMt0 "str" mUpper (dOp dIx (dVar 14) (dC (.int 0)))) (dNil))))) (dName 12) (dIfS (dTest (dOp dNe (dCat [.tear, .machine, .word, .count] [(.word, [119, 111, 114, 100]), (.count, [99, 111, 117, 110, 116]), (.tear, [111, 100, 100])] [110, 111, 110, 101] (dCall 2 sp_has_word (dCons (dVar 4) (dCons (dVar 12) (dNil))))) (dC (.str [119, 111, 114, 100])))) (dRet (dC (.bl false))) (dNext))) (dSeq (dFor (dISeq (dLst (dCons (dC .non) (dCons (dNeg (dC (.int 1))) (dCons (dC (.int 41)) (dCons (dC (.bl true)) (dCons (dC (.bl false)) (dCons (dC (.str [49])) (dCons (dTup (dCons (dC (.int 1)) (dNil))) (dNil)))))))))) (dName 12) (dIfS (dTest (dOp dNe (dCat [.tear, .machine, .word, .count] [(.word, [119, 111, 114, 100]), (.count, [99, 111, 117, 110, 116]), (.tear, [111, 100, 100])] [110, 111, 110, 101] (dCall 2 sp_first_words (dCons (dVar 4) (dCons (dVar 12) (dNil))))) (dC (.str [99, 111, 117, 110, 116])))) (dRet (dC (.bl false))) (dNext))) (dIfS (dTest (dOp dNe (dCB bRepr (dCons (dVar 4) (dNil))) (dVar 13))) (dRet (dC (.bl false))) (dNext))))
def u_law_1_10 : MS := dSeq (dFor (dISeq (dOp dAdd (dVar 11) (dLst (dCons (dMt0 "str" mUpper (dOp dIx (dVar 14) (dC (.int 0)))) (dNil))))) (dName 12) (dIfS (dTest (dOp dNe (dCat [.tear, .machine, .word, .count] [(.word, [119, 111, 114, 100]), (.count, [99, 111, 117, 110, 116]), (.tear, [111, 100, 100])] [110, 111, 110, 101] (dCall 2 sp_has_word (dCons (dVar 4) (dCons (dVar 12) (dNil))))) (dC (.str [119, 111, 114, 100])))) (dRet (dC (.bl false))) (dNext))) (dSeq (dFor (dISeq (dLst (dCons (dC .non) (dCons (dNeg (dC (.int 1))) (dCons (dC (.int 41)) (dCons (dC (.bl true)) (dCons (dC (.bl false)) (dCons (dC (.str [49])) (dCons (dTup (dCons (dC (.int 1)) (dNil))) (dNil)))))))))) (dName 12) (dIfS (dTest (dOp dNe (dCat [.tear, .machine, .word, .count] [(.word, [119, 111, 114, 100]), (.count, [99, 111, 117, 110, 116]), (.tear, [111, 100, 100])] [110, 111, 110, 101] (dCall 2 sp_first_words (dCons (dVar 4) (dCons (dVar 12) (dNil))))) (dC (.str [99, 111, 117, 110, 116])))) (dRet (dC (.bl false))) (dNext))) (dIfS (dTest (dOp dNe (dCB bRepr (dCons (dVar 4) (dNil))) (dVar 13))) (dRet (dC (.bl false))) (dNext)))
def u_law_1_11 : MS := dSeq (dFor (dISeq (dLst (dCons (dC .non) (dCons (dNeg (dC (.int 1))) (dCons (dC (.int 41)) (dCons (dC (.bl true)) (dCons (dC (.bl false)) (dCons (dC (.str [49])) (dCons (dTup (dCons (dC (.int 1)) (dNil))) (dNil)))))))))) (dName 12) (dIfS (dTest (dOp dNe (dCat [.tear, .machine, .word, .count] [(.word, [119, 111, 114, 100]), (.count, [99, 111, 117, 110, 116]), (.tear, [111, 100, 100])] [110, 111, 110, 101] (dCall 2 sp_first_words (dCons (dVar 4) (dCons (dVar 12) (dNil))))) (dC (.str [99, 111, 117, 110, 116])))) (dRet (dC (.bl false))) (dNext))) (dIfS (dTest (dOp dNe (dCB bRepr (dCons (dVar 4) (dNil))) (dVar 13))) (dRet (dC (.bl false))) (dNext))
def u_law_1_12 : MS := dIfS (dTest (dOp dNe (dCB bRepr (dCons (dVar 4) (dNil))) (dVar 13))) (dRet (dC (.bl false))) (dNext)
theorem law_c {M : Mch} (ok : M.ok) {Q : DK} {E : DX} {g : DHp} (DD : DEnds) (hrt : DD.rt = Fgt Q) (s0 s1 s2 s3 s5 s6 s7 s8 s9 s10 s11 s12 s15 s16 s17 s18 s19 s20 s21 : Option D)
    (nx : ∀ g' t10 t11 t12, Less g g' → DD.nx [s0, s1, s2, s3, some (mchD M), s5, s6, s7, s8, s9, t10, t11, t12, some (.str (shownM M)), some (.str M.L), s15, s16, s17, s18, s19, s20, s21] g') :
    u_law_1_8 DD [s0, s1, s2, s3, some (mchD M), s5, s6, s7, s8, s9, s10, s11, s12, some (.str (shownM M)), some (.str M.L), s15, s16, s17, s18, s19, s20, s21] g := by
  have hs := sizeLine_eq
  have h3 := ok.l3
  have h1 := ok.l1
  obtain ⟨l0, hl0⟩ : ∃ l0, M.L[0]? = some l0 := ⟨M.L[0], List.getElem?_eq_getElem (by omega)⟩
  have l0m := List.mem_of_getElem? hl0
  simp only [u_law_1_8, forall_const, true_implies, false_implies, implies_true, and_true, true_and, reduceCtorEq, Bool.not_true, Bool.not_false, Bool.true_xor, Bool.false_xor, Option.some.injEq, exists_eq_left', put_same, onB_bl, dSeq, dNext, dBreak, dDrop, dRet, dRetN, dIfS, dName, dgNil, dgCons, dgTup, dAsg, dPar, dPar3, dSetI, dgSub, dRaise, dVar, dC, dOp, dTest, dAnd, dOr, dNot, dAndV, dOrV, dNotV, dIf, dNil, dCons, dTup, dLst, dCall, dCB, dMt, dMt0, dInC, dIxC, dChain, dNeg, dNoPart, dPart, dSl, exE, dIsA, dCat, catchD, subE, Ex.ix, endsD, dLc, dISeq, dIRng1, dIRng2, dIEnum, dFor, dDcT, dDcK, dCallV, mStarts_str, mIndex_str, mUpper_str, dSortSet, dListZip, dListRng, dDnew, dLc2, List.getElem?_cons_zero, List.getElem?_cons_succ, List.set_cons_zero, List.set_cons_succ, onL_lst, isA_non, isA_int_int, isA_bool_int, isA_str_int, isA_tup_int, isA_lst_int, isA_int_str, isA_bool_str, isA_str_str, isA_tup_str, isA_lst_str, isA_int_tup, isA_bool_tup, isA_str_tup, isA_tup_tup, isA_lst_tup, isA_int_bl, isA_bool_bl, isA_str_bl, isA_tup_bl, isA_lst_bl, dAdd_int, dAdd_str, dAdd_tup, dAdd_ref, dSub_int, dLt_int, dLe_int, dGt_int, dGe_int, dMul_int, dMul_str, dMul_ref, dMod_int, dFdiv_int, dPow_int, dIsN_, dNotN_, isNon_int, isNon_non, dEq_str, dEq_int, dNe_str, dNe_int, dIn_sign, dIx_str, dIx_tup, dIx_scr, dIx_ref, dCut_str, dCut_tup, dCut_scr, dCut_ref, bLen_str, bLen_tup, bLen_ref, bInt_int, bInt_bl, bTup_tup, bTup_ref, bList_str, bList_tup, bList_ref, tyD_str, mAppend_ref, mExtend_ref, tyL, dSetL_ref, mJoin_ref, bMin_ref, bMax_ref, atI_0, atI_1, atI_2, hrt]
  obtain ⟨c0, r0, ec⟩ := other_sign h3
  have c0m : c0 ∈ ([97, 98, 99, 100, 120, 121, 122] : Tx) ∧ c0 ∉ M.L := by
    have : c0 ∈ ([97, 98, 99, 100, 120, 121, 122] : Tx).filter (fun c => !decide (c ∈ M.L)) := by rw [ec]; simp
    rw [List.mem_filter] at this
    exact ⟨this.1, by simpa using this.2⟩
  refine lcB_filter (fun d => match d with | .str [c] => !decide (c ∈ M.L) | _ => false) id True.intro (by simp; omega) (fun d hd => ?_) fun u nu => ?_
  · obtain ⟨c, hc, rfl⟩ := List.mem_map.mp hd
    refine ⟨_, rfl, fun K k => ?_, fun _ K k => k⟩
    simp only [forall_const, true_implies, false_implies, implies_true, and_true, true_and, reduceCtorEq, Bool.not_true, Bool.not_false, Bool.true_xor, Bool.false_xor, Option.some.injEq, exists_eq_left', put_same, onB_bl, dSeq, dNext, dBreak, dDrop, dRet, dRetN, dIfS, dName, dgNil, dgCons, dgTup, dAsg, dPar, dPar3, dSetI, dgSub, dRaise, dVar, dC, dOp, dTest, dAnd, dOr, dNot, dAndV, dOrV, dNotV, dIf, dNil, dCons, dTup, dLst, dCall, dCB, dMt, dMt0, dInC, dIxC, dChain, dNeg, dNoPart, dPart, dSl, exE, dIsA, dCat, catchD, subE, Ex.ix, endsD, dLc, dISeq, dIRng1, dIRng2, dIEnum, dFor, dDcT, dDcK, dCallV, mStarts_str, mIndex_str, mUpper_str, dSortSet, dListZip, dListRng, dDnew, dLc2, List.getElem?_cons_zero, List.getElem?_cons_succ, List.set_cons_zero, List.set_cons_succ, onL_lst, isA_non, isA_int_int, isA_bool_int, isA_str_int, isA_tup_int, isA_lst_int, isA_int_str, isA_bool_str, isA_str_str, isA_tup_str, isA_lst_str, isA_int_tup, isA_bool_tup, isA_str_tup, isA_tup_tup, isA_lst_tup, isA_int_bl, isA_bool_bl, isA_str_bl, isA_tup_bl, isA_lst_bl, dAdd_int, dAdd_str, dAdd_tup, dAdd_ref, dSub_int, dLt_int, dLe_int, dGt_int, dGe_int, dMul_int, dMul_str, dMul_ref, dMod_int, dFdiv_int, dPow_int, dIsN_, dNotN_, isNon_int, isNon_non, dEq_str, dEq_int, dNe_str, dNe_int, dIn_sign, dIx_str, dIx_tup, dIx_scr, dIx_ref, dCut_str, dCut_tup, dCut_scr, dCut_ref, bLen_str, bLen_tup, bLen_ref, bInt_int, bInt_bl, bTup_tup, bTup_ref, bList_str, bList_tup, bList_ref, tyD_str, mAppend_ref, mExtend_ref, tyL, dSetL_ref, mJoin_ref, bMin_ref, bMax_ref, atI_0, atI_1, atI_2, dwipe]
    simpa using k
  · have ew : ((([97, 98, 99, 100, 120, 121, 122] : Tx).map fun c => D.str [c]).filter fun d => (match d with | .str [c] => !decide (c ∈ M.L) | _ => false)).map id = (c0 :: r0).map fun c => D.str [c] := by
      rw [← ec, List.map_id, List.filter_map]
      rfl
    rw [ew]
    simp only [forall_const, true_implies, false_implies, implies_true, and_true, true_and, reduceCtorEq, Bool.not_true, Bool.not_false, Bool.true_xor, Bool.false_xor, Option.some.injEq, exists_eq_left', put_same, onB_bl, dSeq, dNext, dBreak, dDrop, dRet, dRetN, dIfS, dName, dgNil, dgCons, dgTup, dAsg, dPar, dPar3, dSetI, dgSub, dRaise, dVar, dC, dOp, dTest, dAnd, dOr, dNot, dAndV, dOrV, dNotV, dIf, dNil, dCons, dTup, dLst, dCall, dCB, dMt, dMt0, dInC, dIxC, dChain, dNeg, dNoPart, dPart, dSl, exE, dIsA, dCat, catchD, subE, Ex.ix, endsD, dLc, dISeq, dIRng1, dIRng2, dIEnum, dFor, dDcT, dDcK, dCallV, mStarts_str, mIndex_str, mUpper_str, dSortSet, dListZip, dListRng, dDnew, dLc2, List.getElem?_cons_zero, List.getElem?_cons_succ, List.set_cons_zero, List.set_cons_succ, onL_lst, isA_non, isA_int_int, isA_bool_int, isA_str_int, isA_tup_int, isA_lst_int, isA_int_str, isA_bool_str, isA_str_str, isA_tup_str, isA_lst_str, isA_int_tup, isA_bool_tup, isA_str_tup, isA_tup_tup, isA_lst_tup, isA_int_bl, isA_bool_bl, isA_str_bl, isA_tup_bl, isA_lst_bl, dAdd_int, dAdd_str, dAdd_tup, dAdd_ref, dSub_int, dLt_int, dLe_int, dGt_int, dGe_int, dMul_int, dMul_str, dMul_ref, dMod_int, dFdiv_int, dPow_int, dIsN_, dNotN_, isNon_int, isNon_non, dEq_str, dEq_int, dNe_str, dNe_int, dIn_sign, dIx_str, dIx_tup, dIx_scr, dIx_ref, dCut_str, dCut_tup, dCut_scr, dCut_ref, bLen_str, bLen_tup, bLen_ref, bInt_int, bInt_bl, bTup_tup, bTup_ref, bList_str, bList_tup, bList_ref, tyD_str, mAppend_ref, mExtend_ref, tyL, dSetL_ref, mJoin_ref, bMin_ref, bMax_ref, atI_0, atI_1, atI_2, List.map_cons]
    have a0 : atI M.L 0 = some l0 := atI_lt (k := 0) hl0
    refine ⟨by omega, l0, a0, ⟨by omega, by omega, by show 1 * 201 ≤ _; omega⟩, by omega, l0, a0, by simp; omega, by show (0 : Nat) ≤ sizeLine; omega, fun ra nra => ⟨by omega, l0, a0, by show (1 : Nat) ≤ sizeLine; omega, fun rb nrb => ⟨by show (10 : Nat) ≤ sizeLine; omega, fun p2 np2 => ⟨by omega, l0, a0, by show (1 : Nat) ≤ 1000; omega, by show (1 : Nat) ≤ sizeLine; omega, fun p3 np3 => ?_⟩⟩⟩⟩
    have lA := less_new (o := .dct []) (less_new (o := .lst []) (less_new (o := .lst (D.str [c0] :: r0.map fun c => D.str [c])) (Less.refl (h := g)) nu) nra) nrb
    have eA : put (put (put g u (.lst (D.str [c0] :: r0.map fun c => D.str [c]))) ra (.lst [])) rb (.dct []) ra = some (.lst []) := put_old put_same nrb
    have eB : put (put (put g u (.lst (D.str [c0] :: r0.map fun c => D.str [c]))) ra (.lst [])) rb (.dct []) rb = some (.dct []) := put_same
    generalize put (put (put g u (.lst (D.str [c0] :: r0.map fun c => D.str [c]))) ra (.lst [])) rb (.dct []) = g1 at lA eA eB np2 np3
    have eu : (Txt.upper (tx [l0])).cps.toList = [l0 - 32] := upper_small l0 (ok.small l0 l0m)
    rw [eu]
    generalize eod : ([D.non, D.int 1, D.str (repD (Int.toNat 201) [l0]), D.str [c0], D.str ([l0] ++ [c0]), D.ref ra, D.tup [D.str [l0]], D.str [63], D.str [32], D.ref rb] : List D) = od at np3
    have e2 := put_old (o := .lst [D.str [l0 - 32]]) (put_same (h := g1) (a := p2) (o := .lst od)) np3
    simp only [e2, onL_lst]
    refine ⟨by rw [← eod]; show (10 : Nat) + 1 ≤ sizeLine; omega, fun p4 np4 => ?_⟩
    have lB := less_new (o := .lst (od ++ [D.str [l0 - 32]])) (less_new (o := .lst [D.str [l0 - 32]]) (less_new (o := .lst od) lA np2) np3) np4
    have eA4 := put_old (o := .lst (od ++ [D.str [l0 - 32]])) (put_old (o := .lst [D.str [l0 - 32]]) (put_old (o := .lst od) eA np2) np3) np4
    have eB4 := put_old (o := .lst (od ++ [D.str [l0 - 32]])) (put_old (o := .lst [D.str [l0 - 32]]) (put_old (o := .lst od) eB np2) np3) np4
    have e4 : put (put (put g1 p2 (.lst od)) p3 (.lst [D.str [l0 - 32]])) p4 (.lst (od ++ [D.str [l0 - 32]])) p4 = some (.lst (od ++ [D.str [l0 - 32]])) := put_same
    generalize put (put (put g1 p2 (.lst od)) p3 (.lst [D.str [l0 - 32]])) p4 (.lst (od ++ [D.str [l0 - 32]])) = g2 at lB eA4 eB4 e4
    refine forB_inv (fun i δ h' => (∃ t10 t11 t12, δ = [s0, s1, s2, s3, some (mchD M), s5, s6, s7, s8, s9, t10, t11, t12, some (.str (shownM M)), some (.str M.L), s15, s16, s17, s18, s19, s20, s21]) ∧ Less g2 h')
      ⟨⟨_, _, _, rfl⟩, Less.refl⟩ (fun _ _ _ v => v.2 _ _ e4) ?_ ?_
    · rintro δ h' ⟨⟨t10, t11, t12, rfl⟩, l'⟩
      simp only [forall_const, true_implies, false_implies, implies_true, and_true, true_and, reduceCtorEq, Bool.not_true, Bool.not_false, Bool.true_xor, Bool.false_xor, Option.some.injEq, exists_eq_left', put_same, onB_bl, dSeq, dNext, dBreak, dDrop, dRet, dRetN, dIfS, dName, dgNil, dgCons, dgTup, dAsg, dPar, dPar3, dSetI, dgSub, dRaise, dVar, dC, dOp, dTest, dAnd, dOr, dNot, dAndV, dOrV, dNotV, dIf, dNil, dCons, dTup, dLst, dCall, dCB, dMt, dMt0, dInC, dIxC, dChain, dNeg, dNoPart, dPart, dSl, exE, dIsA, dCat, catchD, subE, Ex.ix, endsD, dLc, dISeq, dIRng1, dIRng2, dIEnum, dFor, dDcT, dDcK, dCallV, mStarts_str, mIndex_str, mUpper_str, dSortSet, dListZip, dListRng, dDnew, dLc2, List.getElem?_cons_zero, List.getElem?_cons_succ, List.set_cons_zero, List.set_cons_succ, onL_lst, isA_non, isA_int_int, isA_bool_int, isA_str_int, isA_tup_int, isA_lst_int, isA_int_str, isA_bool_str, isA_str_str, isA_tup_str, isA_lst_str, isA_int_tup, isA_bool_tup, isA_str_tup, isA_tup_tup, isA_lst_tup, isA_int_bl, isA_bool_bl, isA_str_bl, isA_tup_bl, isA_lst_bl, dAdd_int, dAdd_str, dAdd_tup, dAdd_ref, dSub_int, dLt_int, dLe_int, dGt_int, dGe_int, dMul_int, dMul_str, dMul_ref, dMod_int, dFdiv_int, dPow_int, dIsN_, dNotN_, isNon_int, isNon_non, dEq_str, dEq_int, dNe_str, dNe_int, dIn_sign, dIx_str, dIx_tup, dIx_scr, dIx_ref, dCut_str, dCut_tup, dCut_scr, dCut_ref, bLen_str, bLen_tup, bLen_ref, bInt_int, bInt_bl, bTup_tup, bTup_ref, bList_str, bList_tup, bList_ref, tyD_str, mAppend_ref, mExtend_ref, tyL, dSetL_ref, mJoin_ref, bMin_ref, bMax_ref, atI_0, atI_1, atI_2]
      refine ⟨by show (1 : Nat) ≤ sizeLine; omega, by show (7 : Nat) ≤ sizeLine; omega, fun p5 np5 => ?_⟩
      have e5 : put h' p5 (.lst [D.non, D.int (-1), D.int 41, D.bl true, D.bl false, D.str [49], D.tup [D.int 1]]) p5 = some (.lst [D.non, D.int (-1), D.int 41, D.bl true, D.bl false, D.str [49], D.tup [D.int 1]]) := put_same
      have l5 := less_new (o := .lst [D.non, D.int (-1), D.int 41, D.bl true, D.bl false, D.str [49], D.tup [D.int 1]]) l' np5
      generalize put h' p5 (.lst [D.non, D.int (-1), D.int 41, D.bl true, D.bl false, D.str [49], D.tup [D.int 1]]) = g3 at e5 l5
      refine forB_inv (fun i δ h' => (∃ t12, δ = [s0, s1, s2, s3, some (mchD M), s5, s6, s7, s8, s9, t10, t11, t12, some (.str (shownM M)), some (.str M.L), s15, s16, s17, s18, s19, s20, s21]) ∧ Less g3 h')
        ⟨⟨_, rfl⟩, Less.refl⟩ (fun _ _ _ v => v.2 _ _ e5) ?_ ?_
      · rintro δ h' ⟨⟨t12, rfl⟩, l6⟩
        simp only [forall_const, true_implies, false_implies, implies_true, and_true, true_and, reduceCtorEq, Bool.not_true, Bool.not_false, Bool.true_xor, Bool.false_xor, Option.some.injEq, exists_eq_left', put_same, onB_bl, dSeq, dNext, dBreak, dDrop, dRet, dRetN, dIfS, dName, dgNil, dgCons, dgTup, dAsg, dPar, dPar3, dSetI, dgSub, dRaise, dVar, dC, dOp, dTest, dAnd, dOr, dNot, dAndV, dOrV, dNotV, dIf, dNil, dCons, dTup, dLst, dCall, dCB, dMt, dMt0, dInC, dIxC, dChain, dNeg, dNoPart, dPart, dSl, exE, dIsA, dCat, catchD, subE, Ex.ix, endsD, dLc, dISeq, dIRng1, dIRng2, dIEnum, dFor, dDcT, dDcK, dCallV, mStarts_str, mIndex_str, mUpper_str, dSortSet, dListZip, dListRng, dDnew, dLc2, List.getElem?_cons_zero, List.getElem?_cons_succ, List.set_cons_zero, List.set_cons_succ, onL_lst, isA_non, isA_int_int, isA_bool_int, isA_str_int, isA_tup_int, isA_lst_int, isA_int_str, isA_bool_str, isA_str_str, isA_tup_str, isA_lst_str, isA_int_tup, isA_bool_tup, isA_str_tup, isA_tup_tup, isA_lst_tup, isA_int_bl, isA_bool_bl, isA_str_bl, isA_tup_bl, isA_lst_bl, dAdd_int, dAdd_str, dAdd_tup, dAdd_ref, dSub_int, dLt_int, dLe_int, dGt_int, dGe_int, dMul_int, dMul_str, dMul_ref, dMod_int, dFdiv_int, dPow_int, dIsN_, dNotN_, isNon_int, isNon_non, dEq_str, dEq_int, dNe_str, dNe_int, dIn_sign, dIx_str, dIx_tup, dIx_scr, dIx_ref, dCut_str, dCut_tup, dCut_scr, dCut_ref, bLen_str, bLen_tup, bLen_ref, bInt_int, bInt_bl, bTup_tup, bTup_ref, bList_str, bList_tup, bList_ref, tyD_str, mAppend_ref, mExtend_ref, tyL, dSetL_ref, mJoin_ref, bMin_ref, bMax_ref, atI_0, atI_1, atI_2]
        refine repr_mch ok ?_
        simp only [forall_const, true_implies, false_implies, implies_true, and_true, true_and, reduceCtorEq, Bool.not_true, Bool.not_false, Bool.true_xor, Bool.false_xor, Option.some.injEq, exists_eq_left', put_same, onB_bl, dSeq, dNext, dBreak, dDrop, dRet, dRetN, dIfS, dName, dgNil, dgCons, dgTup, dAsg, dPar, dPar3, dSetI, dgSub, dRaise, dVar, dC, dOp, dTest, dAnd, dOr, dNot, dAndV, dOrV, dNotV, dIf, dNil, dCons, dTup, dLst, dCall, dCB, dMt, dMt0, dInC, dIxC, dChain, dNeg, dNoPart, dPart, dSl, exE, dIsA, dCat, catchD, subE, Ex.ix, endsD, dLc, dISeq, dIRng1, dIRng2, dIEnum, dFor, dDcT, dDcK, dCallV, mStarts_str, mIndex_str, mUpper_str, dSortSet, dListZip, dListRng, dDnew, dLc2, List.getElem?_cons_zero, List.getElem?_cons_succ, List.set_cons_zero, List.set_cons_succ, onL_lst, isA_non, isA_int_int, isA_bool_int, isA_str_int, isA_tup_int, isA_lst_int, isA_int_str, isA_bool_str, isA_str_str, isA_tup_str, isA_lst_str, isA_int_tup, isA_bool_tup, isA_str_tup, isA_tup_tup, isA_lst_tup, isA_int_bl, isA_bool_bl, isA_str_bl, isA_tup_bl, isA_lst_bl, dAdd_int, dAdd_str, dAdd_tup, dAdd_ref, dSub_int, dLt_int, dLe_int, dGt_int, dGe_int, dMul_int, dMul_str, dMul_ref, dMod_int, dFdiv_int, dPow_int, dIsN_, dNotN_, isNon_int, isNon_non, dEq_str, dEq_int, dNe_str, dNe_int, dIn_sign, dIx_str, dIx_tup, dIx_scr, dIx_ref, dCut_str, dCut_tup, dCut_scr, dCut_ref, bLen_str, bLen_tup, bLen_ref, bInt_int, bInt_bl, bTup_tup, bTup_ref, bList_str, bList_tup, bList_ref, tyD_str, mAppend_ref, mExtend_ref, tyL, dSetL_ref, mJoin_ref, bMin_ref, bMax_ref, atI_0, atI_1, atI_2]
        have l7 : Less g h' := fun a o e => l6 a o (l5 a o (lB a o e))
        exact ⟨fun z => by simp at z, fun _ => nx _ _ _ _ l7⟩
      · rintro i d δ h' hd ⟨⟨t12, rfl⟩, l6⟩
        have hdm := List.mem_of_getElem? hd
        simp only [forall_const, true_implies, false_implies, implies_true, and_true, true_and, reduceCtorEq, Bool.not_true, Bool.not_false, Bool.true_xor, Bool.false_xor, Option.some.injEq, exists_eq_left', put_same, onB_bl, dSeq, dNext, dBreak, dDrop, dRet, dRetN, dIfS, dName, dgNil, dgCons, dgTup, dAsg, dPar, dPar3, dSetI, dgSub, dRaise, dVar, dC, dOp, dTest, dAnd, dOr, dNot, dAndV, dOrV, dNotV, dIf, dNil, dCons, dTup, dLst, dCall, dCB, dMt, dMt0, dInC, dIxC, dChain, dNeg, dNoPart, dPart, dSl, exE, dIsA, dCat, catchD, subE, Ex.ix, endsD, dLc, dISeq, dIRng1, dIRng2, dIEnum, dFor, dDcT, dDcK, dCallV, mStarts_str, mIndex_str, mUpper_str, dSortSet, dListZip, dListRng, dDnew, dLc2, List.getElem?_cons_zero, List.getElem?_cons_succ, List.set_cons_zero, List.set_cons_succ, onL_lst, isA_non, isA_int_int, isA_bool_int, isA_str_int, isA_tup_int, isA_lst_int, isA_int_str, isA_bool_str, isA_str_str, isA_tup_str, isA_lst_str, isA_int_tup, isA_bool_tup, isA_str_tup, isA_tup_tup, isA_lst_tup, isA_int_bl, isA_bool_bl, isA_str_bl, isA_tup_bl, isA_lst_bl, dAdd_int, dAdd_str, dAdd_tup, dAdd_ref, dSub_int, dLt_int, dLe_int, dGt_int, dGe_int, dMul_int, dMul_str, dMul_ref, dMod_int, dFdiv_int, dPow_int, dIsN_, dNotN_, isNon_int, isNon_non, dEq_str, dEq_int, dNe_str, dNe_int, dIn_sign, dIx_str, dIx_tup, dIx_scr, dIx_ref, dCut_str, dCut_tup, dCut_scr, dCut_ref, bLen_str, bLen_tup, bLen_ref, bInt_int, bInt_bl, bTup_tup, bTup_ref, bList_str, bList_tup, bList_ref, tyD_str, mAppend_ref, mExtend_ref, tyL, dSetL_ref, mJoin_ref, bMin_ref, bMax_ref, atI_0, atI_1, atI_2]
        have hp : Plain d h' ∧ within d 0 40 = false := by
          simp only [List.mem_cons, List.mem_nil_iff, or_false] at hdm
          rcases hdm with rfl | rfl | rfl | rfl | rfl | rfl | rfl
          · exact ⟨plain_n, rfl⟩
          · exact ⟨plain_i, rfl⟩
          · exact ⟨plain_i, rfl⟩
          · exact ⟨plain_b, rfl⟩
          · exact ⟨plain_b, rfl⟩
          · exact ⟨plain_s, rfl⟩
          · exact ⟨plain_t, rfl⟩
        refine ⟨rfl, M, d, rfl, ok, hp.1, fun _ => ?_, fun n e hn => ?_⟩
        · refine ⟨by decide, ?_⟩
          simp only [Nat.reduceBEq, Bool.false_or]
          exact ⟨fun z => by simp at z, fun _ => ⟨⟨_, rfl⟩, l6⟩⟩
        · have z := hp.2
          rw [e] at z
          simp [within] at z
          omega
    · rintro i d δ h' hd ⟨⟨t10, t11, t12, rfl⟩, l'⟩
      have hdm := List.mem_of_getElem? hd
      simp only [forall_const, true_implies, false_implies, implies_true, and_true, true_and, reduceCtorEq, Bool.not_true, Bool.not_false, Bool.true_xor, Bool.false_xor, Option.some.injEq, exists_eq_left', put_same, onB_bl, dSeq, dNext, dBreak, dDrop, dRet, dRetN, dIfS, dName, dgNil, dgCons, dgTup, dAsg, dPar, dPar3, dSetI, dgSub, dRaise, dVar, dC, dOp, dTest, dAnd, dOr, dNot, dAndV, dOrV, dNotV, dIf, dNil, dCons, dTup, dLst, dCall, dCB, dMt, dMt0, dInC, dIxC, dChain, dNeg, dNoPart, dPart, dSl, exE, dIsA, dCat, catchD, subE, Ex.ix, endsD, dLc, dISeq, dIRng1, dIRng2, dIEnum, dFor, dDcT, dDcK, dCallV, mStarts_str, mIndex_str, mUpper_str, dSortSet, dListZip, dListRng, dDnew, dLc2, List.getElem?_cons_zero, List.getElem?_cons_succ, List.set_cons_zero, List.set_cons_succ, onL_lst, isA_non, isA_int_int, isA_bool_int, isA_str_int, isA_tup_int, isA_lst_int, isA_int_str, isA_bool_str, isA_str_str, isA_tup_str, isA_lst_str, isA_int_tup, isA_bool_tup, isA_str_tup, isA_tup_tup, isA_lst_tup, isA_int_bl, isA_bool_bl, isA_str_bl, isA_tup_bl, isA_lst_bl, dAdd_int, dAdd_str, dAdd_tup, dAdd_ref, dSub_int, dLt_int, dLe_int, dGt_int, dGe_int, dMul_int, dMul_str, dMul_ref, dMod_int, dFdiv_int, dPow_int, dIsN_, dNotN_, isNon_int, isNon_non, dEq_str, dEq_int, dNe_str, dNe_int, dIn_sign, dIx_str, dIx_tup, dIx_scr, dIx_ref, dCut_str, dCut_tup, dCut_scr, dCut_ref, bLen_str, bLen_tup, bLen_ref, bInt_int, bInt_bl, bTup_tup, bTup_ref, bList_str, bList_tup, bList_ref, tyD_str, mAppend_ref, mExtend_ref, tyL, dSetL_ref, mJoin_ref, bMin_ref, bMax_ref, atI_0, atI_1, atI_2]
      have no : ∀ x c, c ∈ x → c ∉ M.L → isText (.str x) M.L = false := fun x c h1 h2 => by
        have : madeOf x M.L = false := by
          unfold madeOf
          rw [List.all_eq_false]
          exact ⟨c, h1, by simpa using h2⟩
        simp [isText, this]
      have sm : ∀ c, c ∉ SMALL → c ∉ M.L := fun c h1 h2 => h1 (ok.small c h2)
      have hp : Plain d h' ∧ (∀ x, d = .str x → x.length ≤ 10000) ∧ isText d M.L = false := by
        rw [← eod] at hdm
        simp only [List.cons_append, List.nil_append, List.mem_cons, List.mem_nil_iff, or_false] at hdm
        rcases hdm with rfl | rfl | rfl | rfl | rfl | rfl | rfl | rfl | rfl | rfl | rfl
        · exact ⟨plain_n, fun x e => (by cases e), rfl⟩
        · exact ⟨plain_i, fun x e => (by cases e), rfl⟩
        · have hl : (repD (Int.toNat 201) [l0]).length = 201 := by rw [repD_len]; rfl
          exact ⟨plain_s, fun x e => (by cases e; omega), isText_long (by omega)⟩
        · exact ⟨plain_s, fun x e => (by cases e; simp), no _ c0 (by simp) c0m.2⟩
        · exact ⟨plain_s, fun x e => (by cases e; simp), no _ c0 (by simp) c0m.2⟩
        · exact ⟨(fun t => by cases t <;> simp [isA, l' _ _ eA4]), fun x e => (by cases e), rfl⟩
        · exact ⟨plain_t, fun x e => (by cases e), rfl⟩
        · exact ⟨plain_s, fun x e => (by cases e; simp), no _ 63 (by simp) (sm _ (by decide))⟩
        · exact ⟨plain_s, fun x e => (by cases e; simp), no _ 32 (by simp) (sm _ (by decide))⟩
        · exact ⟨fun t => by cases t <;> simp [isA, l' _ _ eB4], fun x e => (by cases e), rfl⟩
        · have : ∀ c ∈ SMALL, c - 32 ∉ SMALL := by decide
          exact ⟨plain_s, fun x e => (by cases e; simp), no _ (l0 - 32) (by simp) (sm _ (this l0 (ok.small l0 l0m)))⟩
      refine ⟨rfl, M, d, rfl, ok, hp.1, hp.2.1, fun _ => ?_, fun x e z => (by rw [hp.2.2] at z; cases z)⟩
      refine ⟨by decide, ?_⟩
      simp only [Nat.reduceBEq, Bool.false_or]
      exact ⟨fun z => by simp at z, fun _ => ⟨⟨_, _, _, rfl⟩, l'⟩⟩
theorem mv_less {h g g' : DHp} {p : Addr} {m : Int} (M : Mv h p m g) (l : Less g g') : Mv h p m g' := by
  obtain ⟨c, k, v, k', v', hp, h1, h2, l'⟩ := M
  exact ⟨c, k, v, k', v', hp, h1, h2, fun a o e => l a o (l' a o e)⟩
theorem isText_yes {x L : Tx} (h : x.length ≤ 200) (m : ∀ c ∈ x, c ∈ L) : isText (.str x) L = true := by
  show (decide (x.length ≤ 200) && madeOf x L) = true
  rw [decide_eq_true h]
  unfold madeOf
  rw [Bool.true_and, List.all_eq_true]
  exact fun c hc => decide_eq_true (m c hc)
theorem firsts_ok {M : Mch} (ok : M.ok) (n : Nat) : ∀ w ∈ M.firsts n, okTx w ∧ w.length ≤ 300 := by
  have gen : ∀ K, ∀ w ∈ M.fw K, okTx w ∧ w.length ≤ K := by
    intro K
    induction K with
    | zero => intro w hw; cases hw
    | succ K ih =>
      intro w hw
      rcases List.mem_append.mp (show w ∈ M.fw K ++ M.fw1 (M.lev K) from hw) with z | z
      · have := ih w z
        exact ⟨this.1, by omega⟩
      · unfold Mch.fw1 at z
        obtain ⟨p, hp, rfl⟩ := List.mem_map.mp z
        have := lev_ok ok K p (List.mem_filter.mp hp).1
        exact ⟨okTx_L ok this.2.2, by omega⟩
  exact fun w hw => gen 300 w (List.mem_of_mem_take hw)
theorem repr_firsts {M : Mch} (ok : M.ok) {n : Nat} (hn : n ≤ 40) {h : DHp} {a : Addr} {K : DK} (ea : h a = some (.lst ((M.firsts n).map D.str))) (k : K (.str (shownL (M.firsts n))) h) : bRepr [.ref a] h K := by
  have hs := sizeLine_eq
  refine repr_strs 300 40 ea (fun w hw => (firsts_ok ok n w hw).1) (fun w hw => (firsts_ok ok n w hw).2) ?_ (by omega) k
  unfold Mch.firsts
  rw [List.length_take]
  omega
theorem law_b {M : Mch} (ok : M.ok) {Q : DK} {h g : DHp} {p pw : Addr} {m : Int} {ws : List Tx} (DD : DEnds) (hrt : DD.rt = Fgt Q) (P : Pen h p 3000) (Mo : Mv h p m g) (hm : m ≤ 1000) (ew : g pw = some (.lst (ws.map D.str))) (hws : ∀ w ∈ ws, (∀ c ∈ w, c ∈ M.L) ∧ w.length ≤ 1000) (hwl : ws.length ≤ 100) (s0 s2 s3 s5 s7 s8 s9 s10 s11 s12 s15 s16 s17 s18 s19 s20 s21 : Option D)
    (nx : ∀ g' t7 t8 t9 t10 t11 t12 t15 t16, Mv h p (m + 4) g' → DD.nx [s0, some (.ref p), s2, s3, some (mchD M), s5, some (.ref pw), t7, t8, t9, t10, t11, t12, some (.str (shownM M)), some (.str M.L), t15, t16, s17, s18, s19, s20, s21] g') :
    u_law_1_6 DD [s0, some (.ref p), s2, s3, some (mchD M), s5, some (.ref pw), s7, s8, s9, s10, s11, s12, some (.str (shownM M)), some (.str M.L), s15, s16, s17, s18, s19, s20, s21] g := by
  have hs := sizeLine_eq
  show dSeq _ (dSeq _ u_law_1_8) _ _ _
  have T : ∀ g' t7 t8 t9 t15 t16, Mv h p (m + 4) g' → u_law_1_8 DD [s0, some (.ref p), s2, s3, some (mchD M), s5, some (.ref pw), t7, t8, t9, s10, s11, s12, some (.str (shownM M)), some (.str M.L), t15, t16, s17, s18, s19, s20, s21] g' := fun g' t7 t8 t9 t15 t16 M4 =>
    law_c (E := fun _ _ => True) ok DD hrt _ _ _ _ _ _ _ _ _ _ _ _ _ _ _ _ _ _ _ fun g2 t10 t11 t12 l => nx _ _ _ _ _ _ _ _ _ (mv_less M4 l)
  generalize u_law_1_8 = U at T
  simp only [forall_const, true_implies, false_implies, implies_true, and_true, true_and, reduceCtorEq, Bool.not_true, Bool.not_false, Bool.true_xor, Bool.false_xor, Option.some.injEq, exists_eq_left', put_same, onB_bl, dSeq, dNext, dBreak, dDrop, dRet, dRetN, dIfS, dName, dgNil, dgCons, dgTup, dAsg, dPar, dPar3, dSetI, dgSub, dRaise, dVar, dC, dOp, dTest, dAnd, dOr, dNot, dAndV, dOrV, dNotV, dIf, dNil, dCons, dTup, dLst, dCall, dCB, dMt, dMt0, dInC, dIxC, dChain, dNeg, dNoPart, dPart, dSl, exE, dIsA, dCat, catchD, subE, Ex.ix, endsD, dLc, dISeq, dIRng1, dIRng2, dIEnum, dFor, dDcT, dDcK, dCallV, mStarts_str, mIndex_str, mUpper_str, dSortSet, dListZip, dListRng, dDnew, dLc2, List.getElem?_cons_zero, List.getElem?_cons_succ, List.set_cons_zero, List.set_cons_succ, onL_lst, isA_non, isA_int_int, isA_bool_int, isA_str_int, isA_tup_int, isA_lst_int, isA_int_str, isA_bool_str, isA_str_str, isA_tup_str, isA_lst_str, isA_int_tup, isA_bool_tup, isA_str_tup, isA_tup_tup, isA_lst_tup, isA_int_bl, isA_bool_bl, isA_str_bl, isA_tup_bl, isA_lst_bl, dAdd_int, dAdd_str, dAdd_tup, dAdd_ref, dSub_int, dLt_int, dLe_int, dGt_int, dGe_int, dMul_int, dMul_str, dMul_ref, dMod_int, dFdiv_int, dPow_int, dIsN_, dNotN_, isNon_int, isNon_non, dEq_str, dEq_int, dNe_str, dNe_int, dIn_sign, dIx_str, dIx_tup, dIx_scr, dIx_ref, dCut_str, dCut_tup, dCut_scr, dCut_ref, bLen_str, bLen_tup, bLen_ref, bInt_int, bInt_bl, bTup_tup, bTup_ref, bList_str, bList_tup, bList_ref, tyD_str, mAppend_ref, mExtend_ref, tyL, dSetL_ref, mJoin_ref, bMin_ref, bMax_ref, atI_0, atI_1, atI_2, ew, hrt]
  refine forB_inv (fun i δ h' => h' = g ∧ ∃ t8, δ = [s0, some (.ref p), s2, s3, some (mchD M), s5, some (.ref pw), s7, t8, s9, s10, s11, s12, some (.str (shownM M)), some (.str M.L), s15, s16, s17, s18, s19, s20, s21]) ⟨rfl, _, rfl⟩ (fun _ _ _ v => by rw [v.1]; exact ew) ?_ ?_
  · rintro δ h' ⟨rfl, t8, rfl⟩
    simp only [forall_const, true_implies, false_implies, implies_true, and_true, true_and, reduceCtorEq, Bool.not_true, Bool.not_false, Bool.true_xor, Bool.false_xor, Option.some.injEq, exists_eq_left', put_same, onB_bl, dSeq, dNext, dBreak, dDrop, dRet, dRetN, dIfS, dName, dgNil, dgCons, dgTup, dAsg, dPar, dPar3, dSetI, dgSub, dRaise, dVar, dC, dOp, dTest, dAnd, dOr, dNot, dAndV, dOrV, dNotV, dIf, dNil, dCons, dTup, dLst, dCall, dCB, dMt, dMt0, dInC, dIxC, dChain, dNeg, dNoPart, dPart, dSl, exE, dIsA, dCat, catchD, subE, Ex.ix, endsD, dLc, dISeq, dIRng1, dIRng2, dIEnum, dFor, dDcT, dDcK, dCallV, mStarts_str, mIndex_str, mUpper_str, dSortSet, dListZip, dListRng, dDnew, dLc2, List.getElem?_cons_zero, List.getElem?_cons_succ, List.set_cons_zero, List.set_cons_succ, onL_lst, isA_non, isA_int_int, isA_bool_int, isA_str_int, isA_tup_int, isA_lst_int, isA_int_str, isA_bool_str, isA_str_str, isA_tup_str, isA_lst_str, isA_int_tup, isA_bool_tup, isA_str_tup, isA_tup_tup, isA_lst_tup, isA_int_bl, isA_bool_bl, isA_str_bl, isA_tup_bl, isA_lst_bl, dAdd_int, dAdd_str, dAdd_tup, dAdd_ref, dSub_int, dLt_int, dLe_int, dGt_int, dGe_int, dMul_int, dMul_str, dMul_ref, dMod_int, dFdiv_int, dPow_int, dIsN_, dNotN_, isNon_int, isNon_non, dEq_str, dEq_int, dNe_str, dNe_int, dIn_sign, dIx_str, dIx_tup, dIx_scr, dIx_ref, dCut_str, dCut_tup, dCut_scr, dCut_ref, bLen_str, bLen_tup, bLen_ref, bInt_int, bInt_bl, bTup_tup, bTup_ref, bList_str, bList_tup, bList_ref, tyD_str, mAppend_ref, mExtend_ref, tyL, dSetL_ref, mJoin_ref, bMin_ref, bMax_ref, atI_0, atI_1, atI_2]
    refine take_mv P Mo (by omega) (by omega) (by omega) fun v g1 v0 v1 M1 => ⟨by show (4 : Nat) ≤ sizeLine; omega, fun pm npm => ?_⟩
    obtain ⟨v, rfl⟩ : ∃ k : Nat, v = k := ⟨v.toNat, by omega⟩
    have em : put g1 pm (.lst [D.int 0, D.int 1, D.int 40, D.int (v : Nat)]) pm = some (.lst [D.int 0, D.int 1, D.int 40, D.int (v : Nat)]) := put_same
    have M2 := mv_new (o := .lst [D.int 0, D.int 1, D.int 40, D.int (v : Nat)]) M1 npm
    generalize put g1 pm (.lst [D.int 0, D.int 1, D.int 40, D.int (v : Nat)]) = g2 at em M2
    refine forB_inv (fun i δ h' => Less g2 h' ∧ ∃ t7 t9 t15 t16, δ = [s0, some (.ref p), s2, s3, some (mchD M), s5, some (.ref pw), t7, t8, t9, s10, s11, s12, some (.str (shownM M)), some (.str M.L), t15, t16, s17, s18, s19, s20, s21])
      ⟨Less.refl, _, _, _, _, rfl⟩ (fun _ _ _ w => w.1 _ _ em) ?_ ?_
    · rintro δ h' ⟨l', t7, t9, t15, t16, rfl⟩
      exact T _ _ _ _ _ _ (mv_le (mv_less M2 l') (by omega))
    · rintro i d δ h' hd ⟨l', t7, t9, t15, t16, rfl⟩
      have hdm := List.mem_of_getElem? hd
      obtain ⟨n, rfl, hn⟩ : ∃ n : Nat, d = .int (n : Nat) ∧ n ≤ 40 := by
        simp only [List.mem_cons, List.mem_nil_iff, or_false] at hdm
        rcases hdm with rfl | rfl | rfl | rfl
        · exact ⟨0, rfl, by omega⟩
        · exact ⟨1, rfl, by omega⟩
        · exact ⟨40, rfl, by omega⟩
        · exact ⟨v, rfl, by omega⟩
      simp only [forall_const, true_implies, false_implies, implies_true, and_true, true_and, reduceCtorEq, Bool.not_true, Bool.not_false, Bool.true_xor, Bool.false_xor, Option.some.injEq, exists_eq_left', put_same, onB_bl, dSeq, dNext, dBreak, dDrop, dRet, dRetN, dIfS, dName, dgNil, dgCons, dgTup, dAsg, dPar, dPar3, dSetI, dgSub, dRaise, dVar, dC, dOp, dTest, dAnd, dOr, dNot, dAndV, dOrV, dNotV, dIf, dNil, dCons, dTup, dLst, dCall, dCB, dMt, dMt0, dInC, dIxC, dChain, dNeg, dNoPart, dPart, dSl, exE, dIsA, dCat, catchD, subE, Ex.ix, endsD, dLc, dISeq, dIRng1, dIRng2, dIEnum, dFor, dDcT, dDcK, dCallV, mStarts_str, mIndex_str, mUpper_str, dSortSet, dListZip, dListRng, dDnew, dLc2, List.getElem?_cons_zero, List.getElem?_cons_succ, List.set_cons_zero, List.set_cons_succ, onL_lst, isA_non, isA_int_int, isA_bool_int, isA_str_int, isA_tup_int, isA_lst_int, isA_int_str, isA_bool_str, isA_str_str, isA_tup_str, isA_lst_str, isA_int_tup, isA_bool_tup, isA_str_tup, isA_tup_tup, isA_lst_tup, isA_int_bl, isA_bool_bl, isA_str_bl, isA_tup_bl, isA_lst_bl, dAdd_int, dAdd_str, dAdd_tup, dAdd_ref, dSub_int, dLt_int, dLe_int, dGt_int, dGe_int, dMul_int, dMul_str, dMul_ref, dMod_int, dFdiv_int, dPow_int, dIsN_, dNotN_, isNon_int, isNon_non, dEq_str, dEq_int, dNe_str, dNe_int, dIn_sign, dIx_str, dIx_tup, dIx_scr, dIx_ref, dCut_str, dCut_tup, dCut_scr, dCut_ref, bLen_str, bLen_tup, bLen_ref, bInt_int, bInt_bl, bTup_tup, bTup_ref, bList_str, bList_tup, bList_ref, tyD_str, mAppend_ref, mExtend_ref, tyL, dSetL_ref, mJoin_ref, bMin_ref, bMax_ref, atI_0, atI_1, atI_2]
      refine ⟨rfl, M, n, rfl, ok, hn, fun rd nrd => ⟨⟨by omega, by omega⟩, ?_⟩⟩
      have ed : put h' rd (.lst ((M.firsts n).map D.str)) rd = some (.lst ((M.firsts n).map D.str)) := put_same
      have ld := less_new (o := .lst ((M.firsts n).map D.str)) l' nrd
      generalize put h' rd (.lst ((M.firsts n).map D.str)) = g3 at ed ld
      refine forB_inv (fun i δ h' => Less g3 h' ∧ ∃ t7 t16, δ = [s0, some (.ref p), s2, s3, some (mchD M), s5, some (.ref pw), t7, t8, some (.int (n : Nat)), s10, s11, s12, some (.str (shownM M)), some (.str M.L), some (.ref rd), t16, s17, s18, s19, s20, s21])
        ⟨Less.refl, _, _, rfl⟩ (fun _ _ _ _ => True.intro) ?_ ?_
      · rintro δ h'' ⟨l3, t7, t16, rfl⟩
        exact ⟨fun a o e => l3 a o (ld a o e), _, _, _, _, rfl⟩
      · rintro j d δ h'' hd ⟨l3, t7, t16, rfl⟩
        obtain ⟨_, rfl⟩ := rngD_get hd
        simp only [forall_const, true_implies, false_implies, implies_true, and_true, true_and, reduceCtorEq, Bool.not_true, Bool.not_false, Bool.true_xor, Bool.false_xor, Option.some.injEq, exists_eq_left', put_same, onB_bl, dSeq, dNext, dBreak, dDrop, dRet, dRetN, dIfS, dName, dgNil, dgCons, dgTup, dAsg, dPar, dPar3, dSetI, dgSub, dRaise, dVar, dC, dOp, dTest, dAnd, dOr, dNot, dAndV, dOrV, dNotV, dIf, dNil, dCons, dTup, dLst, dCall, dCB, dMt, dMt0, dInC, dIxC, dChain, dNeg, dNoPart, dPart, dSl, exE, dIsA, dCat, catchD, subE, Ex.ix, endsD, dLc, dISeq, dIRng1, dIRng2, dIEnum, dFor, dDcT, dDcK, dCallV, mStarts_str, mIndex_str, mUpper_str, dSortSet, dListZip, dListRng, dDnew, dLc2, List.getElem?_cons_zero, List.getElem?_cons_succ, List.set_cons_zero, List.set_cons_succ, onL_lst, isA_non, isA_int_int, isA_bool_int, isA_str_int, isA_tup_int, isA_lst_int, isA_int_str, isA_bool_str, isA_str_str, isA_tup_str, isA_lst_str, isA_int_tup, isA_bool_tup, isA_str_tup, isA_tup_tup, isA_lst_tup, isA_int_bl, isA_bool_bl, isA_str_bl, isA_tup_bl, isA_lst_bl, dAdd_int, dAdd_str, dAdd_tup, dAdd_ref, dSub_int, dLt_int, dLe_int, dGt_int, dGe_int, dMul_int, dMul_str, dMul_ref, dMod_int, dFdiv_int, dPow_int, dIsN_, dNotN_, isNon_int, isNon_non, dEq_str, dEq_int, dNe_str, dNe_int, dIn_sign, dIx_str, dIx_tup, dIx_scr, dIx_ref, dCut_str, dCut_tup, dCut_scr, dCut_ref, bLen_str, bLen_tup, bLen_ref, bInt_int, bInt_bl, bTup_tup, bTup_ref, bList_str, bList_tup, bList_ref, tyD_str, mAppend_ref, mExtend_ref, tyL, dSetL_ref, mJoin_ref, bMin_ref, bMax_ref, atI_0, atI_1, atI_2]
        refine ⟨rfl, M, .int (n : Nat), rfl, ok, plain_i, fun z => ?_, fun n' e hn' r2 nr2 => ?_⟩
        · simp [within] at z
          omega
        · have e : n' = n := by cases e; rfl
          subst e
          refine repr_firsts ok hn put_same ?_
          refine repr_firsts ok hn (put_old (l3 _ _ ed) nr2) ?_
          simp only [forall_const, true_implies, false_implies, implies_true, and_true, true_and, reduceCtorEq, Bool.not_true, Bool.not_false, Bool.true_xor, Bool.false_xor, Option.some.injEq, exists_eq_left', put_same, onB_bl, dSeq, dNext, dBreak, dDrop, dRet, dRetN, dIfS, dName, dgNil, dgCons, dgTup, dAsg, dPar, dPar3, dSetI, dgSub, dRaise, dVar, dC, dOp, dTest, dAnd, dOr, dNot, dAndV, dOrV, dNotV, dIf, dNil, dCons, dTup, dLst, dCall, dCB, dMt, dMt0, dInC, dIxC, dChain, dNeg, dNoPart, dPart, dSl, exE, dIsA, dCat, catchD, subE, Ex.ix, endsD, dLc, dISeq, dIRng1, dIRng2, dIEnum, dFor, dDcT, dDcK, dCallV, mStarts_str, mIndex_str, mUpper_str, dSortSet, dListZip, dListRng, dDnew, dLc2, List.getElem?_cons_zero, List.getElem?_cons_succ, List.set_cons_zero, List.set_cons_succ, onL_lst, isA_non, isA_int_int, isA_bool_int, isA_str_int, isA_tup_int, isA_lst_int, isA_int_str, isA_bool_str, isA_str_str, isA_tup_str, isA_lst_str, isA_int_tup, isA_bool_tup, isA_str_tup, isA_tup_tup, isA_lst_tup, isA_int_bl, isA_bool_bl, isA_str_bl, isA_tup_bl, isA_lst_bl, dAdd_int, dAdd_str, dAdd_tup, dAdd_ref, dSub_int, dLt_int, dLe_int, dGt_int, dGe_int, dMul_int, dMul_str, dMul_ref, dMod_int, dFdiv_int, dPow_int, dIsN_, dNotN_, isNon_int, isNon_non, dEq_str, dEq_int, dNe_str, dNe_int, dIn_sign, dIx_str, dIx_tup, dIx_scr, dIx_ref, dCut_str, dCut_tup, dCut_scr, dCut_ref, bLen_str, bLen_tup, bLen_ref, bInt_int, bInt_bl, bTup_tup, bTup_ref, bList_str, bList_tup, bList_ref, tyD_str, mAppend_ref, mExtend_ref, tyL, dSetL_ref, mJoin_ref, bMin_ref, bMax_ref, atI_0, atI_1, atI_2, put_same, onL_lst, put_put]
          have hlf : (M.firsts n').length ≤ 40 := by unfold Mch.firsts; rw [List.length_take]; omega
          exact ⟨fun z => by simp at z, fun _ => ⟨by rw [List.length_map]; omega, less_new l3 nr2, _, _, rfl⟩⟩
  · rintro i d δ h' hd ⟨rfl, t8, rfl⟩
    rw [List.getElem?_map] at hd
    obtain ⟨w, hw, rfl⟩ := Option.map_eq_some_iff.mp hd
    obtain ⟨hwc, hwl2⟩ := hws w (List.mem_of_getElem? hw)
    simp only [forall_const, true_implies, false_implies, implies_true, and_true, true_and, reduceCtorEq, Bool.not_true, Bool.not_false, Bool.true_xor, Bool.false_xor, Option.some.injEq, exists_eq_left', put_same, onB_bl, dSeq, dNext, dBreak, dDrop, dRet, dRetN, dIfS, dName, dgNil, dgCons, dgTup, dAsg, dPar, dPar3, dSetI, dgSub, dRaise, dVar, dC, dOp, dTest, dAnd, dOr, dNot, dAndV, dOrV, dNotV, dIf, dNil, dCons, dTup, dLst, dCall, dCB, dMt, dMt0, dInC, dIxC, dChain, dNeg, dNoPart, dPart, dSl, exE, dIsA, dCat, catchD, subE, Ex.ix, endsD, dLc, dISeq, dIRng1, dIRng2, dIEnum, dFor, dDcT, dDcK, dCallV, mStarts_str, mIndex_str, mUpper_str, dSortSet, dListZip, dListRng, dDnew, dLc2, List.getElem?_cons_zero, List.getElem?_cons_succ, List.set_cons_zero, List.set_cons_succ, onL_lst, isA_non, isA_int_int, isA_bool_int, isA_str_int, isA_tup_int, isA_lst_int, isA_int_str, isA_bool_str, isA_str_str, isA_tup_str, isA_lst_str, isA_int_tup, isA_bool_tup, isA_str_tup, isA_tup_tup, isA_lst_tup, isA_int_bl, isA_bool_bl, isA_str_bl, isA_tup_bl, isA_lst_bl, dAdd_int, dAdd_str, dAdd_tup, dAdd_ref, dSub_int, dLt_int, dLe_int, dGt_int, dGe_int, dMul_int, dMul_str, dMul_ref, dMod_int, dFdiv_int, dPow_int, dIsN_, dNotN_, isNon_int, isNon_non, dEq_str, dEq_int, dNe_str, dNe_int, dIn_sign, dIx_str, dIx_tup, dIx_scr, dIx_ref, dCut_str, dCut_tup, dCut_scr, dCut_ref, bLen_str, bLen_tup, bLen_ref, bInt_int, bInt_bl, bTup_tup, bTup_ref, bList_str, bList_tup, bList_ref, tyD_str, mAppend_ref, mExtend_ref, tyL, dSetL_ref, mJoin_ref, bMin_ref, bMax_ref, atI_0, atI_1, atI_2]
    refine ⟨by omega, fun hz => ?_, fun _ => ⟨_, rfl⟩⟩
    have hz : w.length ≤ 200 := by have := of_decide_eq_true hz; omega
    refine ⟨rfl, M, .str w, rfl, ok, plain_s, fun x e => (by cases e; omega), fun z => (by rw [isText_yes hz hwc] at z; cases z), fun x e _ => ?_⟩
    cases e
    refine repr_bl ?_
    refine ⟨rfl, M, w, rfl, ok, hwc, by omega, ?_⟩
    refine repr_bl ?_
    simp only [forall_const, true_implies, false_implies, implies_true, and_true, true_and, reduceCtorEq, Bool.not_true, Bool.not_false, Bool.true_xor, Bool.false_xor, Option.some.injEq, exists_eq_left', put_same, onB_bl, dSeq, dNext, dBreak, dDrop, dRet, dRetN, dIfS, dName, dgNil, dgCons, dgTup, dAsg, dPar, dPar3, dSetI, dgSub, dRaise, dVar, dC, dOp, dTest, dAnd, dOr, dNot, dAndV, dOrV, dNotV, dIf, dNil, dCons, dTup, dLst, dCall, dCB, dMt, dMt0, dInC, dIxC, dChain, dNeg, dNoPart, dPart, dSl, exE, dIsA, dCat, catchD, subE, Ex.ix, endsD, dLc, dISeq, dIRng1, dIRng2, dIEnum, dFor, dDcT, dDcK, dCallV, mStarts_str, mIndex_str, mUpper_str, dSortSet, dListZip, dListRng, dDnew, dLc2, List.getElem?_cons_zero, List.getElem?_cons_succ, List.set_cons_zero, List.set_cons_succ, onL_lst, isA_non, isA_int_int, isA_bool_int, isA_str_int, isA_tup_int, isA_lst_int, isA_int_str, isA_bool_str, isA_str_str, isA_tup_str, isA_lst_str, isA_int_tup, isA_bool_tup, isA_str_tup, isA_tup_tup, isA_lst_tup, isA_int_bl, isA_bool_bl, isA_str_bl, isA_tup_bl, isA_lst_bl, dAdd_int, dAdd_str, dAdd_tup, dAdd_ref, dSub_int, dLt_int, dLe_int, dGt_int, dGe_int, dMul_int, dMul_str, dMul_ref, dMod_int, dFdiv_int, dPow_int, dIsN_, dNotN_, isNon_int, isNon_non, dEq_str, dEq_int, dNe_str, dNe_int, dIn_sign, dIx_str, dIx_tup, dIx_scr, dIx_ref, dCut_str, dCut_tup, dCut_scr, dCut_ref, bLen_str, bLen_tup, bLen_ref, bInt_int, bInt_bl, bTup_tup, bTup_ref, bList_str, bList_tup, bList_ref, tyD_str, mAppend_ref, mExtend_ref, tyL, dSetL_ref, mJoin_ref, bMin_ref, bMax_ref, atI_0, atI_1, atI_2]
    exact ⟨fun z => by simp at z, fun _ => ⟨_, rfl⟩⟩
theorem law_a {M : Mch} (ok : M.ok) {Q : DK} {h g : DHp} {p : Addr} {m : Int} (DD : DEnds) (hrt : DD.rt = Fgt Q) (P : Pen h p 3000) (Mo : Mv h p m g) (hm0 : 0 ≤ m) (hm : m ≤ 300) (s0 s2 s3 s5 s6 s7 s8 s9 s10 s11 s12 s13 s14 s15 s16 s17 s18 s19 s20 s21 : Option D)
    (nx : ∀ g' t5 t6 t7 t8 t9 t10 t11 t12 t13 t14 t15 t16, Mv h p (m + 300) g' → DD.nx [s0, some (.ref p), s2, s3, some (mchD M), t5, t6, t7, t8, t9, t10, t11, t12, t13, t14, t15, t16, s17, s18, s19, s20, s21] g') :
    u_law_1_2 DD [s0, some (.ref p), s2, s3, some (mchD M), s5, s6, s7, s8, s9, s10, s11, s12, s13, s14, s15, s16, s17, s18, s19, s20, s21] g := by
  have hs := sizeLine_eq
  have h3 := ok.l3
  have h1 := ok.l1
  obtain ⟨l0, hl0⟩ : ∃ l0, M.L[0]? = some l0 := ⟨M.L[0], List.getElem?_eq_getElem (by omega)⟩
  have l0m := List.mem_of_getElem? hl0
  have a0 : atI M.L 0 = some l0 := atI_lt (k := 0) hl0
  show dSeq _ (dSeq _ (dSeq _ (dSeq _ u_law_1_6))) _ _ _
  have T : ∀ (g' : DHp) (pw : Addr) (ws : List Tx) (m' : Int) (t5 t7 : Option D), Mv h p m' g' → m' ≤ m + 290 → g' pw = some (.lst (ws.map D.str)) → (∀ w ∈ ws, (∀ c ∈ w, c ∈ M.L) ∧ w.length ≤ 1000) → ws.length ≤ 100 → u_law_1_6 DD [s0, some (.ref p), s2, s3, some (mchD M), t5, some (.ref pw), t7, s8, s9, s10, s11, s12, some (.str (shownM M)), some (.str M.L), s15, s16, s17, s18, s19, s20, s21] g' := by
    intro g' pw ws m' t5 t7 M4 hm' ew hws hwl
    refine law_b (h := h) (m := m') ok DD hrt P M4 (by omega) ew hws hwl _ _ _ _ _ _ _ _ _ _ _ _ _ _ _ _ _ fun g2 t7 t8 t9 t10 t11 t12 t15 t16 M5 => nx _ _ _ _ _ _ _ _ _ _ _ _ _ (mv_le M5 (by omega))
  generalize u_law_1_6 = U at T
  simp only [forall_const, true_implies, false_implies, implies_true, and_true, true_and, reduceCtorEq, Bool.not_true, Bool.not_false, Bool.true_xor, Bool.false_xor, Option.some.injEq, exists_eq_left', put_same, onB_bl, dSeq, dNext, dBreak, dDrop, dRet, dRetN, dIfS, dName, dgNil, dgCons, dgTup, dAsg, dPar, dPar3, dSetI, dgSub, dRaise, dVar, dC, dOp, dTest, dAnd, dOr, dNot, dAndV, dOrV, dNotV, dIf, dNil, dCons, dTup, dLst, dCall, dCB, dMt, dMt0, dInC, dIxC, dChain, dNeg, dNoPart, dPart, dSl, exE, dIsA, dCat, catchD, subE, Ex.ix, endsD, dLc, dISeq, dIRng1, dIRng2, dIEnum, dFor, dDcT, dDcK, dCallV, mStarts_str, mIndex_str, mUpper_str, dSortSet, dListZip, dListRng, dDnew, dLc2, List.getElem?_cons_zero, List.getElem?_cons_succ, List.set_cons_zero, List.set_cons_succ, onL_lst, isA_non, isA_int_int, isA_bool_int, isA_str_int, isA_tup_int, isA_lst_int, isA_int_str, isA_bool_str, isA_str_str, isA_tup_str, isA_lst_str, isA_int_tup, isA_bool_tup, isA_str_tup, isA_tup_tup, isA_lst_tup, isA_int_bl, isA_bool_bl, isA_str_bl, isA_tup_bl, isA_lst_bl, dAdd_int, dAdd_str, dAdd_tup, dAdd_ref, dSub_int, dLt_int, dLe_int, dGt_int, dGe_int, dMul_int, dMul_str, dMul_ref, dMod_int, dFdiv_int, dPow_int, dIsN_, dNotN_, isNon_int, isNon_non, dEq_str, dEq_int, dNe_str, dNe_int, dIn_sign, dIx_str, dIx_tup, dIx_scr, dIx_ref, dCut_str, dCut_tup, dCut_scr, dCut_ref, bLen_str, bLen_tup, bLen_ref, bInt_int, bInt_bl, bTup_tup, bTup_ref, bList_str, bList_tup, bList_ref, tyD_str, mAppend_ref, mExtend_ref, tyL, dSetL_ref, mJoin_ref, bMin_ref, bMax_ref, atI_0, atI_1, atI_2, hrt]
  refine repr_mch ok ⟨.str M.L, atI_0, by show (2 : Nat) ≤ sizeLine; omega, rfl, ?_⟩
  refine ⟨rfl, M, p, 200, rfl, ok, by omega, pen_le (mv_pen P Mo) (by omega), fun w g1 hw wl Mm => ?_⟩
  have M1 := mv_moved Mo Mm
  simp only [forall_const, true_implies, false_implies, implies_true, and_true, true_and, reduceCtorEq, Bool.not_true, Bool.not_false, Bool.true_xor, Bool.false_xor, Option.some.injEq, exists_eq_left', put_same, onB_bl, dSeq, dNext, dBreak, dDrop, dRet, dRetN, dIfS, dName, dgNil, dgCons, dgTup, dAsg, dPar, dPar3, dSetI, dgSub, dRaise, dVar, dC, dOp, dTest, dAnd, dOr, dNot, dAndV, dOrV, dNotV, dIf, dNil, dCons, dTup, dLst, dCall, dCB, dMt, dMt0, dInC, dIxC, dChain, dNeg, dNoPart, dPart, dSl, exE, dIsA, dCat, catchD, subE, Ex.ix, endsD, dLc, dISeq, dIRng1, dIRng2, dIEnum, dFor, dDcT, dDcK, dCallV, mStarts_str, mIndex_str, mUpper_str, dSortSet, dListZip, dListRng, dDnew, dLc2, List.getElem?_cons_zero, List.getElem?_cons_succ, List.set_cons_zero, List.set_cons_succ, onL_lst, isA_non, isA_int_int, isA_bool_int, isA_str_int, isA_tup_int, isA_lst_int, isA_int_str, isA_bool_str, isA_str_str, isA_tup_str, isA_lst_str, isA_int_tup, isA_bool_tup, isA_str_tup, isA_tup_tup, isA_lst_tup, isA_int_bl, isA_bool_bl, isA_str_bl, isA_tup_bl, isA_lst_bl, dAdd_int, dAdd_str, dAdd_tup, dAdd_ref, dSub_int, dLt_int, dLe_int, dGt_int, dGe_int, dMul_int, dMul_str, dMul_ref, dMod_int, dFdiv_int, dPow_int, dIsN_, dNotN_, isNon_int, isNon_non, dEq_str, dEq_int, dNe_str, dNe_int, dIn_sign, dIx_str, dIx_tup, dIx_scr, dIx_ref, dCut_str, dCut_tup, dCut_scr, dCut_ref, bLen_str, bLen_tup, bLen_ref, bInt_int, bInt_bl, bTup_tup, bTup_ref, bList_str, bList_tup, bList_ref, tyD_str, mAppend_ref, mExtend_ref, tyL, dSetL_ref, mJoin_ref, bMin_ref, bMax_ref, atI_0, atI_1, atI_2]
  refine ⟨by omega, by omega, l0, a0, by simp; omega, ?_⟩
  refine ⟨rfl, M, p, 7, rfl, ok, by omega, pen_le (mv_pen P M1) (by omega), fun w2 g2 hw2 wl2 Mm2 => ?_⟩
  have M2 := mv_moved M1 Mm2
  refine ⟨by show (5 : Nat) ≤ sizeLine; omega, fun pw npw => ⟨⟨by omega, by omega⟩, ?_⟩⟩
  have ec : cutD w none (some 199) = w.take 199 := by
    have := cut_sg w 0 199
    unfold cutD at this ⊢
    rw [HT.sIx_none, show (199 : Int) = ((199 : Nat) : Int) from rfl, HT.sIx_nat]
    by_cases h : 199 ≤ w.length
    · rw [Nat.min_eq_left h]; rfl
    · rw [Nat.min_eq_right (by omega)]
      simp [List.take_of_length_le (show w.length ≤ 199 by omega)]
  rw [ec]
  have e5 : put g2 pw (.lst [D.str [], D.str w, D.str (w.take 199), D.str (w ++ [l0]), D.str w2]) pw = some (.lst (([[], w, w.take 199, w ++ [l0], w2] : List Tx).map D.str)) := put_same
  have M3 := mv_new (o := .lst [D.str [], D.str w, D.str (w.take 199), D.str (w ++ [l0]), D.str w2]) M2 npw
  have hp0 := mv_none M2 npw
  have pwp : pw ≠ p := fun z => (pen_new (mv_pen P M2) npw) z.symm
  generalize put g2 pw (.lst [D.str [], D.str w, D.str (w.take 199), D.str (w ++ [l0]), D.str w2]) = g3 at e5 M3
  refine forB_inv (fun i δ h' => i ≤ 4 ∧ Mv h p (m + 207 + 9 * i) h' ∧ (∃ t7, δ = [s0, some (.ref p), s2, s3, some (mchD M), some (.str w), some (.ref pw), t7, s8, s9, s10, s11, s12, some (.str (shownM M)), some (.str M.L), s15, s16, s17, s18, s19, s20, s21]) ∧ ∃ ws : List Tx, h' pw = some (.lst (ws.map D.str)) ∧ (∀ w ∈ ws, (∀ c ∈ w, c ∈ M.L) ∧ w.length ≤ 1000) ∧ ws.length = 5 + i)
    ⟨Nat.zero_le _, mv_le M3 (by omega), ⟨_, rfl⟩, _, e5, ?_, rfl⟩ (fun _ _ _ _ => True.intro) ?_ ?_
  · intro x hx
    simp only [List.mem_cons, List.mem_nil_iff, or_false] at hx
    rcases hx with rfl | rfl | rfl | rfl | rfl
    · exact ⟨fun c hc => (by cases hc), Nat.zero_le _⟩
    · exact ⟨hw, by omega⟩
    · exact ⟨fun c hc => hw c (List.mem_of_mem_take hc), by rw [List.length_take]; omega⟩
    · refine ⟨fun c hc => ?_, by simp; omega⟩
      rcases List.mem_append.mp hc with z | z
      · exact hw c z
      · simp at z; subst z; exact l0m
    · exact ⟨hw2, by omega⟩
  · rintro δ h' ⟨_, Mx, ⟨t7, rfl⟩, ws, ew, hws, hwl⟩
    rw [rngD_len] at Mx hwl
    have h4 : (Int.toNat 4) = 4 := rfl
    exact T _ pw ws _ _ _ Mx (by omega) ew hws (by omega)
  · rintro i d δ h' hd ⟨hi, Mx, ⟨t7, rfl⟩, ws, ew, hws, hwl⟩
    obtain ⟨hin, rfl⟩ := rngD_get hd
    have h4 : (Int.toNat 4) = 4 := rfl
    simp only [forall_const, true_implies, false_implies, implies_true, and_true, true_and, reduceCtorEq, Bool.not_true, Bool.not_false, Bool.true_xor, Bool.false_xor, Option.some.injEq, exists_eq_left', put_same, onB_bl, dSeq, dNext, dBreak, dDrop, dRet, dRetN, dIfS, dName, dgNil, dgCons, dgTup, dAsg, dPar, dPar3, dSetI, dgSub, dRaise, dVar, dC, dOp, dTest, dAnd, dOr, dNot, dAndV, dOrV, dNotV, dIf, dNil, dCons, dTup, dLst, dCall, dCB, dMt, dMt0, dInC, dIxC, dChain, dNeg, dNoPart, dPart, dSl, exE, dIsA, dCat, catchD, subE, Ex.ix, endsD, dLc, dISeq, dIRng1, dIRng2, dIEnum, dFor, dDcT, dDcK, dCallV, mStarts_str, mIndex_str, mUpper_str, dSortSet, dListZip, dListRng, dDnew, dLc2, List.getElem?_cons_zero, List.getElem?_cons_succ, List.set_cons_zero, List.set_cons_succ, onL_lst, isA_non, isA_int_int, isA_bool_int, isA_str_int, isA_tup_int, isA_lst_int, isA_int_str, isA_bool_str, isA_str_str, isA_tup_str, isA_lst_str, isA_int_tup, isA_bool_tup, isA_str_tup, isA_tup_tup, isA_lst_tup, isA_int_bl, isA_bool_bl, isA_str_bl, isA_tup_bl, isA_lst_bl, dAdd_int, dAdd_str, dAdd_tup, dAdd_ref, dSub_int, dLt_int, dLe_int, dGt_int, dGe_int, dMul_int, dMul_str, dMul_ref, dMod_int, dFdiv_int, dPow_int, dIsN_, dNotN_, isNon_int, isNon_non, dEq_str, dEq_int, dNe_str, dNe_int, dIn_sign, dIx_str, dIx_tup, dIx_scr, dIx_ref, dCut_str, dCut_tup, dCut_scr, dCut_ref, bLen_str, bLen_tup, bLen_ref, bInt_int, bInt_bl, bTup_tup, bTup_ref, bList_str, bList_tup, bList_ref, tyD_str, mAppend_ref, mExtend_ref, tyL, dSetL_ref, mJoin_ref, bMin_ref, bMax_ref, atI_0, atI_1, atI_2, ew]
    refine take_mm P Mx (by omega) (by omega) (by omega) fun n g4 n0 n1 M4 Mm4 => ?_
    have ew4 := moved_old Mm4 ew pwp
    refine ⟨⟨by omega, by omega⟩, ?_⟩
    refine ⟨fun j acc h'' => j ≤ n.toNat ∧ Mv h p (m + 207 + 9 * i + 1 + j) h'' ∧ h'' pw = some (.lst (ws.map D.str)) ∧ ∃ cs : Tx, cs.length = j ∧ acc = cs.map (fun c => .str [c]) ∧ ∀ c ∈ cs, c ∈ M.L, ⟨Nat.zero_le _, mv_le M4 (by omega), ew4, [], rfl, rfl, (fun c hc => by cases hc)⟩, ?_⟩
    rintro j acc g5 ⟨hj, M5, ew5, cs, hcl, rfl, hcs⟩
    refine ⟨True.intro, fun e u nu => ?_, fun d hd => ?_⟩
    · rw [rngD_len] at e
      have ewu := put_old (o := .lst (cs.map fun c => D.str [c])) ew5 nu
      refine ⟨cs.map fun c => [c], by simp [itemsD, put_same], by rw [sum_signs]; simp; omega, ?_⟩
      rw [signs_join]
      simp only [mAppend_ref, ewu, onL_lst]
      refine ⟨by rw [List.length_map]; omega, by omega, mv_le (mv_upd (mv_new M5 nu) hp0) (by omega), ⟨_, rfl⟩, ws ++ [cs], by rw [List.map_append]; rfl, fun x hx => ?_, by simp [hwl]; omega⟩
      rcases List.mem_append.mp hx with z | z
      · exact hws x z
      · simp at z; subst z; exact ⟨hcs, by omega⟩
    · obtain ⟨hjn, rfl⟩ := rngD_get hd
      refine ⟨_, rfl, fun _ => ?_, fun z => by cases z⟩
      simp only [forall_const, true_implies, false_implies, implies_true, and_true, true_and, reduceCtorEq, Bool.not_true, Bool.not_false, Bool.true_xor, Bool.false_xor, Option.some.injEq, exists_eq_left', put_same, onB_bl, dSeq, dNext, dBreak, dDrop, dRet, dRetN, dIfS, dName, dgNil, dgCons, dgTup, dAsg, dPar, dPar3, dSetI, dgSub, dRaise, dVar, dC, dOp, dTest, dAnd, dOr, dNot, dAndV, dOrV, dNotV, dIf, dNil, dCons, dTup, dLst, dCall, dCB, dMt, dMt0, dInC, dIxC, dChain, dNeg, dNoPart, dPart, dSl, exE, dIsA, dCat, catchD, subE, Ex.ix, endsD, dLc, dISeq, dIRng1, dIRng2, dIEnum, dFor, dDcT, dDcK, dCallV, mStarts_str, mIndex_str, mUpper_str, dSortSet, dListZip, dListRng, dDnew, dLc2, List.getElem?_cons_zero, List.getElem?_cons_succ, List.set_cons_zero, List.set_cons_succ, onL_lst, isA_non, isA_int_int, isA_bool_int, isA_str_int, isA_tup_int, isA_lst_int, isA_int_str, isA_bool_str, isA_str_str, isA_tup_str, isA_lst_str, isA_int_tup, isA_bool_tup, isA_str_tup, isA_tup_tup, isA_lst_tup, isA_int_bl, isA_bool_bl, isA_str_bl, isA_tup_bl, isA_lst_bl, dAdd_int, dAdd_str, dAdd_tup, dAdd_ref, dSub_int, dLt_int, dLe_int, dGt_int, dGe_int, dMul_int, dMul_str, dMul_ref, dMod_int, dFdiv_int, dPow_int, dIsN_, dNotN_, isNon_int, isNon_non, dEq_str, dEq_int, dNe_str, dNe_int, dIn_sign, dIx_str, dIx_tup, dIx_scr, dIx_ref, dCut_str, dCut_tup, dCut_scr, dCut_ref, bLen_str, bLen_tup, bLen_ref, bInt_int, bInt_bl, bTup_tup, bTup_ref, bList_str, bList_tup, bList_ref, tyD_str, mAppend_ref, mExtend_ref, tyL, dSetL_ref, mJoin_ref, bMin_ref, bMax_ref, atI_0, atI_1, atI_2, dwipe]
      refine ⟨rfl, pen_le (mv_pen P M5) (by omega), fun z => (by rw [z] at h1; simp at h1), by omega, fun c g6 hc Mm6 => ?_⟩
      refine ⟨by rw [List.length_map]; omega, by omega, mv_le (mv_moved M5 Mm6) (by omega), moved_old Mm6 ew5 pwp, cs ++ [c], by simp [hcl], by simp, fun x hx => ?_⟩
      rcases List.mem_append.mp hx with z | z
      · exact hcs x z
      · simp at z; subst z; exact hc
/-- the law's last machine -/
def Mc : Mch := ⟨[97, 98, 99], [[some 1, none, none], [none, none, some 2], [none, some 3, none], [some 4, none, none], [none, none, some 5], [none, none, none]], [5]⟩
theorem Mc_ok : Mc.ok := by
  refine ⟨by decide, by decide, by decide, by decide, by decide, by decide, ?_, by decide, by decide⟩
  intro r hr
  have hr : r = [some 1, none, none] ∨ r = [none, none, some 2] ∨ r = [none, some 3, none] ∨ r = [some 4, none, none] ∨ r = [none, none, some 5] ∨ r = [none, none, none] := by simpa [Mc] using hr
  rcases hr with rfl | rfl | rfl | rfl | rfl | rfl <;> exact ⟨rfl, fun q hq => by simp at hq <;> (show q < 6; omega)⟩
theorem Mc_firsts : Mc.firsts 3 = [[97, 99, 98, 97, 99]] := by
  have h7 : Mc.lev 7 = [] := by decide +kernel
  rw [← firsts_at (M := Mc) (K := 7) (n := 3) (by omega) (.inl h7)]
  decide +kernel
theorem law_end {Q : DK} {E : DX} {g : DHp} {s0 s1 s2 s3 s4 s5 s6 s7 s8 s9 s10 s11 s12 s13 s14 s15 s16 s17 s18 s19 s20 s21 : Option D} (q : ∀ h', Q (.bl true) h') : t_law_2 (endsD Q E) [s0, s1, s2, s3, s4, s5, s6, s7, s8, s9, s10, s11, s12, s13, s14, s15, s16, s17, s18, s19, s20, s21] g := by
  have hs := sizeLine_eq
  simp only [t_law_2, forall_const, true_implies, false_implies, implies_true, and_true, true_and, reduceCtorEq, Bool.not_true, Bool.not_false, Bool.true_xor, Bool.false_xor, Option.some.injEq, exists_eq_left', put_same, onB_bl, dSeq, dNext, dBreak, dDrop, dRet, dRetN, dIfS, dName, dgNil, dgCons, dgTup, dAsg, dPar, dPar3, dSetI, dgSub, dRaise, dVar, dC, dOp, dTest, dAnd, dOr, dNot, dAndV, dOrV, dNotV, dIf, dNil, dCons, dTup, dLst, dCall, dCB, dMt, dMt0, dInC, dIxC, dChain, dNeg, dNoPart, dPart, dSl, exE, dIsA, dCat, catchD, subE, Ex.ix, endsD, dLc, dISeq, dIRng1, dIRng2, dIEnum, dFor, dDcT, dDcK, dCallV, mStarts_str, mIndex_str, mUpper_str, dSortSet, dListZip, dListRng, dDnew, dLc2, List.getElem?_cons_zero, List.getElem?_cons_succ, List.set_cons_zero, List.set_cons_succ, onL_lst, isA_non, isA_int_int, isA_bool_int, isA_str_int, isA_tup_int, isA_lst_int, isA_int_str, isA_bool_str, isA_str_str, isA_tup_str, isA_lst_str, isA_int_tup, isA_bool_tup, isA_str_tup, isA_tup_tup, isA_lst_tup, isA_int_bl, isA_bool_bl, isA_str_bl, isA_tup_bl, isA_lst_bl, dAdd_int, dAdd_str, dAdd_tup, dAdd_ref, dSub_int, dLt_int, dLe_int, dGt_int, dGe_int, dMul_int, dMul_str, dMul_ref, dMod_int, dFdiv_int, dPow_int, dIsN_, dNotN_, isNon_int, isNon_non, dEq_str, dEq_int, dNe_str, dNe_int, dIn_sign, dIx_str, dIx_tup, dIx_scr, dIx_ref, dCut_str, dCut_tup, dCut_scr, dCut_ref, bLen_str, bLen_tup, bLen_ref, bInt_int, bInt_bl, bTup_tup, bTup_ref, bList_str, bList_tup, bList_ref, tyD_str, mAppend_ref, mExtend_ref, tyL, dSetL_ref, mJoin_ref, bMin_ref, bMax_ref, atI_0, atI_1, atI_2]
  refine ⟨by show (5 : Nat) ≤ sizeLine; omega, fun pl npl => ?_⟩
  refine ⟨_, rfl, ?_⟩
  have el : put g pl (.lst [D.int 0, D.int 2, D.int 1, D.int 0, D.int 2]) pl = some (.lst [D.int 0, D.int 2, D.int 1, D.int 0, D.int 2]) := put_same
  refine lcB_filterL (fun _ => true) (fun d => match d with | .tup [.int s, .int a] => .tup ((rngD 0 3).map fun c => match c with | .int c => if c = a then .int (s + 1) else .non | _ => .non) | _ => .non) (fun h' l => l _ _ el) (by show (5 : Nat) ≤ sizeLine; omega) (fun d hd => ?_) fun g1 u l nu => ?_
  · have hd' : ∃ s a : Int, d = .tup [.int s, .int a] := by
      unfold enumD at hd
      simp only [List.mapIdx_cons, List.mapIdx_nil, List.mem_cons, List.mem_nil_iff, or_false] at hd
      rcases hd with rfl | rfl | rfl | rfl | rfl <;> exact ⟨_, _, rfl⟩
    obtain ⟨st, a, rfl⟩ := hd'
    refine ⟨_, rfl, fun h' l' K k => k _ l', fun _ h' l' K k => ?_⟩
    simp only [forall_const, true_implies, false_implies, implies_true, and_true, true_and, reduceCtorEq, Bool.not_true, Bool.not_false, Bool.true_xor, Bool.false_xor, Option.some.injEq, exists_eq_left', put_same, onB_bl, dSeq, dNext, dBreak, dDrop, dRet, dRetN, dIfS, dName, dgNil, dgCons, dgTup, dAsg, dPar, dPar3, dSetI, dgSub, dRaise, dVar, dC, dOp, dTest, dAnd, dOr, dNot, dAndV, dOrV, dNotV, dIf, dNil, dCons, dTup, dLst, dCall, dCB, dMt, dMt0, dInC, dIxC, dChain, dNeg, dNoPart, dPart, dSl, exE, dIsA, dCat, catchD, subE, Ex.ix, endsD, dLc, dISeq, dIRng1, dIRng2, dIEnum, dFor, dDcT, dDcK, dCallV, mStarts_str, mIndex_str, mUpper_str, dSortSet, dListZip, dListRng, dDnew, dLc2, List.getElem?_cons_zero, List.getElem?_cons_succ, List.set_cons_zero, List.set_cons_succ, onL_lst, isA_non, isA_int_int, isA_bool_int, isA_str_int, isA_tup_int, isA_lst_int, isA_int_str, isA_bool_str, isA_str_str, isA_tup_str, isA_lst_str, isA_int_tup, isA_bool_tup, isA_str_tup, isA_tup_tup, isA_lst_tup, isA_int_bl, isA_bool_bl, isA_str_bl, isA_tup_bl, isA_lst_bl, dAdd_int, dAdd_str, dAdd_tup, dAdd_ref, dSub_int, dLt_int, dLe_int, dGt_int, dGe_int, dMul_int, dMul_str, dMul_ref, dMod_int, dFdiv_int, dPow_int, dIsN_, dNotN_, isNon_int, isNon_non, dEq_str, dEq_int, dNe_str, dNe_int, dIn_sign, dIx_str, dIx_tup, dIx_scr, dIx_ref, dCut_str, dCut_tup, dCut_scr, dCut_ref, bLen_str, bLen_tup, bLen_ref, bInt_int, bInt_bl, bTup_tup, bTup_ref, bList_str, bList_tup, bList_ref, tyD_str, mAppend_ref, mExtend_ref, tyL, dSetL_ref, mJoin_ref, bMin_ref, bMax_ref, atI_0, atI_1, atI_2, dwipe]
    refine ⟨⟨by omega, by omega⟩, ?_⟩
    refine lcB_map (fun c => match c with | .int c => if c = a then .int (st + 1) else .non | _ => .non) True.intro (by rw [rngD_len]; show (3 : Nat) ≤ _; omega) (fun d hd => ?_) fun u nu => ?_
    · obtain ⟨c, hc, rfl⟩ := rngD_mem hd
      refine ⟨_, rfl, fun K k => ?_⟩
      simp only [forall_const, true_implies, false_implies, implies_true, and_true, true_and, reduceCtorEq, Bool.not_true, Bool.not_false, Bool.true_xor, Bool.false_xor, Option.some.injEq, exists_eq_left', put_same, onB_bl, dSeq, dNext, dBreak, dDrop, dRet, dRetN, dIfS, dName, dgNil, dgCons, dgTup, dAsg, dPar, dPar3, dSetI, dgSub, dRaise, dVar, dC, dOp, dTest, dAnd, dOr, dNot, dAndV, dOrV, dNotV, dIf, dNil, dCons, dTup, dLst, dCall, dCB, dMt, dMt0, dInC, dIxC, dChain, dNeg, dNoPart, dPart, dSl, exE, dIsA, dCat, catchD, subE, Ex.ix, endsD, dLc, dISeq, dIRng1, dIRng2, dIEnum, dFor, dDcT, dDcK, dCallV, mStarts_str, mIndex_str, mUpper_str, dSortSet, dListZip, dListRng, dDnew, dLc2, List.getElem?_cons_zero, List.getElem?_cons_succ, List.set_cons_zero, List.set_cons_succ, onL_lst, isA_non, isA_int_int, isA_bool_int, isA_str_int, isA_tup_int, isA_lst_int, isA_int_str, isA_bool_str, isA_str_str, isA_tup_str, isA_lst_str, isA_int_tup, isA_bool_tup, isA_str_tup, isA_tup_tup, isA_lst_tup, isA_int_bl, isA_bool_bl, isA_str_bl, isA_tup_bl, isA_lst_bl, dAdd_int, dAdd_str, dAdd_tup, dAdd_ref, dSub_int, dLt_int, dLe_int, dGt_int, dGe_int, dMul_int, dMul_str, dMul_ref, dMod_int, dFdiv_int, dPow_int, dIsN_, dNotN_, isNon_int, isNon_non, dEq_str, dEq_int, dNe_str, dNe_int, dIn_sign, dIx_str, dIx_tup, dIx_scr, dIx_ref, dCut_str, dCut_tup, dCut_scr, dCut_ref, bLen_str, bLen_tup, bLen_ref, bInt_int, bInt_bl, bTup_tup, bTup_ref, bList_str, bList_tup, bList_ref, tyD_str, mAppend_ref, mExtend_ref, tyL, dSetL_ref, mJoin_ref, bMin_ref, bMax_ref, atI_0, atI_1, atI_2, dwipe]
      refine ⟨fun z => ?_, fun z => ?_⟩
      · have z : (0 + (c : Int)) = a := eq_of_beq z
        simpa [z] using k
      · have z : ¬ (0 + (c : Int)) = a := fun y => by rw [y] at z; simp at z
        have z2 : ¬ (c : Int) = a := by omega
        simpa [z2] using k
    · simp only [bTup_ref, put_same, onL_lst]
      exact k _ (less_new l' nu)
  · have er : ((enumD [D.int 0, D.int 2, D.int 1, D.int 0, D.int 2]).filter fun _ => true).map (fun d => (match d with | .tup [.int s, .int a] => D.tup ((rngD 0 3).map fun c => match c with | .int c => if c = a then .int (s + 1) else .non | _ => .non) | _ => .non)) =
        [[some 1, none, none], [none, none, some 2], [none, some 3, none], [some 4, none, none], [none, none, some 5]].map rowD := by rfl
    rw [er]
    refine ⟨by show (3 : Nat) ≤ sizeLine; omega, by show (1 : Nat) ≤ sizeLine; omega, fun u2 nu2 => ?_⟩
    simp only [dAdd_ref, put_old put_same nu2, put_same, onL_lst]
    refine ⟨by show (6 : Nat) ≤ sizeLine; omega, fun u3 nu3 => ?_⟩
    simp only [bTup_ref, put_same, onL_lst]
    refine ⟨by show (1 : Nat) ≤ sizeLine; omega, by show (3 : Nat) ≤ sizeLine; omega, rfl, Mc, .int 3, rfl, Mc_ok, plain_i, fun z => by simp [within] at z, fun n e hn r nr => ?_⟩
    have e : n = 3 := by
      have : (3 : Int) = (n : Int) := by injection e
      omega
    subst e
    refine ⟨by show (1 : Nat) ≤ sizeLine; omega, fun u4 nu4 => ?_⟩
    refine dEq_strs (ws := Mc.firsts 3) (vs := [[97, 99, 98, 97, 99]]) (put_old put_same nu4) put_same (fun w hw => (firsts_ok Mc_ok 3 w hw).1) (fun w hw => (firsts_ok Mc_ok 3 w (by rw [Mc_firsts]; exact hw)).1) ?_
    rw [Mc_firsts]
    simp only [decide_true]
    exact fgt_here (q _)
theorem ok_law (ds : List D) (h : DHp) (Q : DK) (E : DX) (hn : ds.length = 1) (q : sp_law ds h Q E) : m_law (endsD Q E) (startD N_law ds) h := by
  have hs := sizeLine_eq
  match ds, q with
  | [.scr ns], ⟨h2, q⟩ =>
    have T : ∀ s0 s1 s2 s3 s4 s5 s6 s7 s8 s9 s10 s11 s12 s13 s14 s15 s16 s17 s18 s19 s20 s21 g, t_law_2 (endsD Q E) [s0, s1, s2, s3, s4, s5, s6, s7, s8, s9, s10, s11, s12, s13, s14, s15, s16, s17, s18, s19, s20, s21] g := fun s0 s1 s2 s3 s4 s5 s6 s7 s8 s9 s10 s11 s12 s13 s14 s15 s16 s17 s18 s19 s20 s21 g => law_end q
    rw [st_law]
    show (dSeq _ (dSeq (dFor _ _ (dSeq _ (dSeq _ u_law_1_2))) t_law_2)) (endsD Q E) _ h
    generalize t_law_2 = T2 at T
    generalize eU : u_law_1_2 = U
    simp only [forall_const, true_implies, false_implies, implies_true, and_true, true_and, reduceCtorEq, Bool.not_true, Bool.not_false, Bool.true_xor, Bool.false_xor, Option.some.injEq, exists_eq_left', put_same, onB_bl, dSeq, dNext, dBreak, dDrop, dRet, dRetN, dIfS, dName, dgNil, dgCons, dgTup, dAsg, dPar, dPar3, dSetI, dgSub, dRaise, dVar, dC, dOp, dTest, dAnd, dOr, dNot, dAndV, dOrV, dNotV, dIf, dNil, dCons, dTup, dLst, dCall, dCB, dMt, dMt0, dInC, dIxC, dChain, dNeg, dNoPart, dPart, dSl, exE, dIsA, dCat, catchD, subE, Ex.ix, endsD, dLc, dISeq, dIRng1, dIRng2, dIEnum, dFor, dDcT, dDcK, dCallV, mStarts_str, mIndex_str, mUpper_str, dSortSet, dListZip, dListRng, dDnew, dLc2, List.getElem?_cons_zero, List.getElem?_cons_succ, List.set_cons_zero, List.set_cons_succ, onL_lst, isA_non, isA_int_int, isA_bool_int, isA_str_int, isA_tup_int, isA_lst_int, isA_int_str, isA_bool_str, isA_str_str, isA_tup_str, isA_lst_str, isA_int_tup, isA_bool_tup, isA_str_tup, isA_tup_tup, isA_lst_tup, isA_int_bl, isA_bool_bl, isA_str_bl, isA_tup_bl, isA_lst_bl, dAdd_int, dAdd_str, dAdd_tup, dAdd_ref, dSub_int, dLt_int, dLe_int, dGt_int, dGe_int, dMul_int, dMul_str, dMul_ref, dMod_int, dFdiv_int, dPow_int, dIsN_, dNotN_, isNon_int, isNon_non, dEq_str, dEq_int, dNe_str, dNe_int, dIn_sign, dIx_str, dIx_tup, dIx_scr, dIx_ref, dCut_str, dCut_tup, dCut_scr, dCut_ref, bLen_str, bLen_tup, bLen_ref, bInt_int, bInt_bl, bTup_tup, bTup_ref, bList_str, bList_tup, bList_ref, tyD_str, mAppend_ref, mExtend_ref, tyL, dSetL_ref, mJoin_ref, bMin_ref, bMax_ref, atI_0, atI_1, atI_2]
    refine ⟨rfl, by omega, fun xs c p nc np => ⟨by decide, ?_⟩⟩
    have P : Pen (put (put h c (.lst (xs.map D.int))) p (.lst [.ref c, .int 0, .int 0])) p 0 := ⟨c, 0, 0, xs, put_same, put_old put_same np, by omega, by omega⟩
    generalize put (put h c (.lst (xs.map D.int))) p (.lst [.ref c, .int 0, .int 0]) = g at P
    refine forB_inv (fun i δ h' => i ≤ 2 ∧ (∃ s2 s3 s4 s5 s6 s7 s8 s9 s10 s11 s12 s13 s14 s15 s16 s17 s18 s19 s20 s21, δ = [some (.scr ns), some (.ref p), s2, s3, s4, s5, s6, s7, s8, s9, s10, s11, s12, s13, s14, s15, s16, s17, s18, s19, s20, s21]) ∧ Pen h' p (600 * i))
      ⟨by omega, ⟨_, _, _, _, _, _, _, _, _, _, _, _, _, _, _, _, _, _, _, _, rfl⟩, by simpa using P⟩ (fun _ _ _ _ => True.intro) ?_ ?_
    · rintro δ g ⟨_, ⟨s2, s3, s4, s5, s6, s7, s8, s9, s10, s11, s12, s13, s14, s15, s16, s17, s18, s19, s20, s21, rfl⟩, _⟩
      exact T _ _ _ _ _ _ _ _ _ _ _ _ _ _ _ _ _ _ _ _ _ _ _
    · rintro i d δ g hd ⟨hi, ⟨s2, s3, s4, s5, s6, s7, s8, s9, s10, s11, s12, s13, s14, s15, s16, s17, s18, s19, s20, s21, rfl⟩, P⟩
      obtain ⟨hin, rfl⟩ := rngD_get hd
      have hin : i < 2 := hin
      simp only [forall_const, true_implies, false_implies, implies_true, and_true, true_and, reduceCtorEq, Bool.not_true, Bool.not_false, Bool.true_xor, Bool.false_xor, Option.some.injEq, exists_eq_left', put_same, onB_bl, dSeq, dNext, dBreak, dDrop, dRet, dRetN, dIfS, dName, dgNil, dgCons, dgTup, dAsg, dPar, dPar3, dSetI, dgSub, dRaise, dVar, dC, dOp, dTest, dAnd, dOr, dNot, dAndV, dOrV, dNotV, dIf, dNil, dCons, dTup, dLst, dCall, dCB, dMt, dMt0, dInC, dIxC, dChain, dNeg, dNoPart, dPart, dSl, exE, dIsA, dCat, catchD, subE, Ex.ix, endsD, dLc, dISeq, dIRng1, dIRng2, dIEnum, dFor, dDcT, dDcK, dCallV, mStarts_str, mIndex_str, mUpper_str, dSortSet, dListZip, dListRng, dDnew, dLc2, List.getElem?_cons_zero, List.getElem?_cons_succ, List.set_cons_zero, List.set_cons_succ, onL_lst, isA_non, isA_int_int, isA_bool_int, isA_str_int, isA_tup_int, isA_lst_int, isA_int_str, isA_bool_str, isA_str_str, isA_tup_str, isA_lst_str, isA_int_tup, isA_bool_tup, isA_str_tup, isA_tup_tup, isA_lst_tup, isA_int_bl, isA_bool_bl, isA_str_bl, isA_tup_bl, isA_lst_bl, dAdd_int, dAdd_str, dAdd_tup, dAdd_ref, dSub_int, dLt_int, dLe_int, dGt_int, dGe_int, dMul_int, dMul_str, dMul_ref, dMod_int, dFdiv_int, dPow_int, dIsN_, dNotN_, isNon_int, isNon_non, dEq_str, dEq_int, dNe_str, dNe_int, dIn_sign, dIx_str, dIx_tup, dIx_scr, dIx_ref, dCut_str, dCut_tup, dCut_scr, dCut_ref, bLen_str, bLen_tup, bLen_ref, bInt_int, bInt_bl, bTup_tup, bTup_ref, bList_str, bList_tup, bList_ref, tyD_str, mAppend_ref, mExtend_ref, tyL, dSetL_ref, mJoin_ref, bMin_ref, bMax_ref, atI_0, atI_1, atI_2]
      refine ⟨rfl, pen_le P (by omega), by omega, by omega, fun M g1 ok Mm => ?_⟩
      have M1 := moved_mv P Mm
      have fin : ∀ (M : Mch) (g1 : DHp) (DD : DEnds), M.ok → Mv g p 200 g1 → DD.rt = Fgt Q → (∀ δ h', (i + 1 ≤ 2 ∧ (∃ s2 s3 s4 s5 s6 s7 s8 s9 s10 s11 s12 s13 s14 s15 s16 s17 s18 s19 s20 s21, δ = [some (.scr ns), some (.ref p), s2, s3, s4, s5, s6, s7, s8, s9, s10, s11, s12, s13, s14, s15, s16, s17, s18, s19, s20, s21]) ∧ Pen h' p (600 * ((i + 1 : Nat) : Int))) → DD.nx δ h') →
          U DD [some (.scr ns), some (.ref p), some (.int (0 + (i : Int))), s3, some (mchD M), s5, s6, s7, s8, s9, s10, s11, s12, s13, s14, s15, s16, s17, s18, s19, s20, s21] g1 := fun M g1 DD ok M1 hrt hnx => by
        subst eU
        exact law_a ok DD hrt (pen_le P (by omega)) M1 (by omega) (by omega) _ _ _ _ _ _ _ _ _ _ _ _ _ _ _ _ _ _ _ _ fun g' t5 t6 t7 t8 t9 t10 t11 t12 t13 t14 t15 t16 M5 => hnx _ _ ⟨by omega, ⟨_, _, _, _, _, _, _, _, _, _, _, _, _, _, _, _, _, _, _, _, rfl⟩, pen_le (mv_pen P M5) (by omega)⟩
      refine ⟨.str M.L, atI_0, ?_⟩
      simp only [forall_const, true_implies, false_implies, implies_true, and_true, true_and, reduceCtorEq, Bool.not_true, Bool.not_false, Bool.true_xor, Bool.false_xor, Option.some.injEq, exists_eq_left', put_same, onB_bl, dSeq, dNext, dBreak, dDrop, dRet, dRetN, dIfS, dName, dgNil, dgCons, dgTup, dAsg, dPar, dPar3, dSetI, dgSub, dRaise, dVar, dC, dOp, dTest, dAnd, dOr, dNot, dAndV, dOrV, dNotV, dIf, dNil, dCons, dTup, dLst, dCall, dCB, dMt, dMt0, dInC, dIxC, dChain, dNeg, dNoPart, dPart, dSl, exE, dIsA, dCat, catchD, subE, Ex.ix, endsD, dLc, dISeq, dIRng1, dIRng2, dIEnum, dFor, dDcT, dDcK, dCallV, mStarts_str, mIndex_str, mUpper_str, dSortSet, dListZip, dListRng, dDnew, dLc2, List.getElem?_cons_zero, List.getElem?_cons_succ, List.set_cons_zero, List.set_cons_succ, onL_lst, isA_non, isA_int_int, isA_bool_int, isA_str_int, isA_tup_int, isA_lst_int, isA_int_str, isA_bool_str, isA_str_str, isA_tup_str, isA_lst_str, isA_int_tup, isA_bool_tup, isA_str_tup, isA_tup_tup, isA_lst_tup, isA_int_bl, isA_bool_bl, isA_str_bl, isA_tup_bl, isA_lst_bl, dAdd_int, dAdd_str, dAdd_tup, dAdd_ref, dSub_int, dLt_int, dLe_int, dGt_int, dGe_int, dMul_int, dMul_str, dMul_ref, dMod_int, dFdiv_int, dPow_int, dIsN_, dNotN_, isNon_int, isNon_non, dEq_str, dEq_int, dNe_str, dNe_int, dIn_sign, dIx_str, dIx_tup, dIx_scr, dIx_ref, dCut_str, dCut_tup, dCut_scr, dCut_ref, bLen_str, bLen_tup, bLen_ref, bInt_int, bInt_bl, bTup_tup, bTup_ref, bList_str, bList_tup, bList_ref, tyD_str, mAppend_ref, mExtend_ref, tyL, dSetL_ref, mJoin_ref, bMin_ref, bMax_ref, atI_0, atI_1, atI_2]
      refine ⟨by have := ok.l3; omega, fun _ => fin M g1 _ ok (mv_le M1 (by omega)) rfl fun δ h' z => z, fun _ => ?_⟩
      refine ⟨rfl, pen_le (mv_pen P M1) (by omega), by omega, by omega, fun M' g2 ok' Mm2 => ?_⟩
      exact fin M' g2 _ ok' (mv_le (mv_moved M1 Mm2) (by omega)) rfl fun δ h' z => z
end Tw

namespace Tw
open PySem PySem.Spec PyProof.Rows L2 Hk32
theorem sc_is_within : FnScope N_is_within ["thing", "least", "most"] (defScope s_is_within) := ⟨rfl, rfl, rfl, by decide +kernel, rfl, by decide +kernel, by decide +kernel⟩
theorem w_is_within {P : Program} {w : World} {K : PySem.W.Frag} {mg : Str → Option Value} {base : Heap} {T : Tb} (n_isinstance : mg "isinstance" = none) (n_int : mg "int" = none) (n_bool : mg "bool" = none) {f : Addr} {fd : FuncData} (F : FunD K "is_within" "is_within" (defArgs s_is_within) (defBody s_is_within) (defScope s_is_within) [] [] f fd) :
    FnOk P w K mg base (L2.CX P w) 1 f fd ["thing", "least", "most"] (lift ⟨K, w, T⟩ 3 sp_is_within) :=
  fnD F sc_is_within fun cdv A outer s H E hr tk hp => by
    have hu := hu_of hr
    have nd := sc_is_within.nd
    exact ⟨m_is_within, (ds_one (ds_ret (de_and (de_isA (t := .int) bt_int rfl n_int rfl n_isinstance (de_var (i := 0) rfl (vis_by rfl))) (de_and (de_not (de_isA (t := .bool) bt_bool rfl n_bool rfl n_isinstance (de_var (i := 0) rfl (vis_by rfl)))) (de_one (de_chain or_le or_le (de_var (i := 1) rfl (vis_by rfl)) (de_var (i := 0) rfl (vis_by rfl)) (de_var (i := 2) rfl (vis_by rfl)))))))), ok_is_within⟩

theorem sc_are_letters : FnScope N_are_letters ["thing"] (defScope s_are_letters) := ⟨rfl, rfl, rfl, by decide +kernel, rfl, by decide +kernel, by decide +kernel⟩
theorem w_are_letters {P : Program} {w : World} {K : PySem.W.Frag} {mg : Str → Option Value} {base : Heap} {T : Tb} (n_isinstance : mg "isinstance" = none) (n_str : mg "str" = none) (n_len : mg "len" = none) (c_MOST_LETTERS : ∃ t, mg "MOST_LETTERS" = some (.int 3 t)) (n_list : mg "list" = none) (n_sorted : mg "sorted" = none) (n_set : mg "set" = none) (n_all : mg "all" = none) (c_SMALL : ∃ t, mg "SMALL" = some (.str "abcdefghijklmnopqrstuvwxyz" t)) {f : Addr} {fd : FuncData} (F : FunD K "are_letters" "are_letters" (defArgs s_are_letters) (defBody s_are_letters) (defScope s_are_letters) [] [] f fd) :
    FnOk P w K mg base (L2.CX P w) 1 f fd ["thing"] (lift ⟨K, w, T⟩ 1 sp_are_letters) :=
  fnD F sc_are_letters fun cdv A outer s H E hr tk hp => by
    have hu := hu_of hr
    have nd := sc_are_letters.nd
    exact ⟨m_are_letters, (ds_cons (ds_if (DW.t (dw_or (dt_not (dt_val (de_isA (t := .str) bt_str rfl n_str rfl n_isinstance (de_var (i := 0) rfl (vis_by rfl))))) (dw_or1 (dt_not (dt_chain or_le or_le de_int (de_callB cd_len rfl n_len bt_len (da_cons (de_var (i := 0) rfl (vis_by rfl)) da_nil)) (de_gi c_MOST_LETTERS rfl)))))) (ds_one (ds_ret de_bl)) ds_nil) (ds_one (ds_ret (de_and (de_cmp (or_eq (hu_64 hu)) (de_callTy (cd_list rfl) rfl n_list bt_list (da_cons (de_var (i := 0) rfl (vis_by rfl)) da_nil)) (de_sortSet rfl rfl n_sorted bt_sorted rfl n_set bt_set (de_var (i := 0) rfl (vis_by rfl)))) (de_one (de_callB (cd_all rfl) rfl n_all bt_all (da_cons (de_lc (own := [("sign", 1)]) rfl nd (di_seq (de_var (i := 0) rfl (vis_by rfl))) (blkOk_by rfl) (by decide) (fun _ _ _ _ _ => (pg_name (i := 1) nd rfl (loc_by rfl))) (fun _ _ _ _ _ => dts_nil) (fun _ _ _ _ _ => (de_cmp (or_in hu) (de_var (i := 1) rfl (vis_by rfl)) (de_gs (z := [97, 98, 99, 100, 101, 102, 103, 104, 105, 106, 107, 108, 109, 110, 111, 112, 113, 114, 115, 116, 117, 118, 119, 120, 121, 122]) c_SMALL rfl rfl)))) da_nil))))))), ok_are_letters⟩

theorem sc_is_state : FnScope N_is_state ["thing", "letters", "many"] (defScope s_is_state) := ⟨rfl, rfl, rfl, by decide +kernel, rfl, by decide +kernel, by decide +kernel⟩
theorem w_is_state {P : Program} {w : World} {K : PySem.W.Frag} {mg : Str → Option Value} {base : Heap} {T : Tb} (n_isinstance : mg "isinstance" = none) (n_tuple : mg "tuple" = none) (n_len : mg "len" = none) (n_all : mg "all" = none) (H_is_within : Has P w K mg base T 1 "is_within" ["thing", "least", "most"] sp_is_within) {f : Addr} {fd : FuncData} (F : FunD K "is_state" "is_state" (defArgs s_is_state) (defBody s_is_state) (defScope s_is_state) [] [] f fd) :
    FnOk P w K mg base (L2.CX P w) 2 f fd ["thing", "letters", "many"] (lift ⟨K, w, T⟩ 3 sp_is_state) :=
  fnD F sc_is_state fun cdv A outer s H E hr tk hp => by
    have hu := hu_of hr
    have nd := sc_is_state.nd
    exact ⟨m_is_state, (ds_cons (ds_if (DW.t (dw_or (dt_not (dt_val (de_isA (t := .tup) bt_tuple rfl n_tuple rfl n_isinstance (de_var (i := 0) rfl (vis_by rfl))))) (dw_or1 (dt_cmp (or_ne (hu_64 hu)) (de_callB cd_len rfl n_len bt_len (da_cons (de_var (i := 0) rfl (vis_by rfl)) da_nil)) (de_callB cd_len rfl n_len bt_len (da_cons (de_var (i := 1) rfl (vis_by rfl)) da_nil)))))) (ds_one (ds_ret de_bl)) ds_nil) (ds_one (ds_ret (de_callB (cd_all rfl) rfl n_all bt_all (da_cons (de_lc (own := [("after", 3)]) rfl nd (di_seq (de_var (i := 0) rfl (vis_by rfl))) (blkOk_by rfl) (by decide) (fun _ _ _ _ _ => (pg_name (i := 3) nd rfl (loc_by rfl))) (fun _ _ _ _ _ => dts_nil) (fun _ _ _ _ _ => (de_or (de_cmp or_isN (de_var (i := 3) rfl (vis_by rfl)) de_non) (de_one (de_fn H_is_within rfl hr (by decide) rfl takesF (da_cons (de_var (i := 3) rfl (vis_by rfl)) (da_cons de_int (da_cons (de_bin or_sub (de_var (i := 2) rfl (vis_by rfl)) de_int) da_nil)))))))) da_nil))))), ok_is_state⟩

theorem sc_are_ends : FnScope N_are_ends ["thing", "many"] (defScope s_are_ends) := ⟨rfl, rfl, rfl, by decide +kernel, rfl, by decide +kernel, by decide +kernel⟩
theorem w_are_ends {P : Program} {w : World} {K : PySem.W.Frag} {mg : Str → Option Value} {base : Heap} {T : Tb} (n_isinstance : mg "isinstance" = none) (n_tuple : mg "tuple" = none) (n_all : mg "all" = none) (H_is_within : Has P w K mg base T 1 "is_within" ["thing", "least", "most"] sp_is_within) (n_list : mg "list" = none) (n_sorted : mg "sorted" = none) (n_set : mg "set" = none) {f : Addr} {fd : FuncData} (F : FunD K "are_ends" "are_ends" (defArgs s_are_ends) (defBody s_are_ends) (defScope s_are_ends) [] [] f fd) :
    FnOk P w K mg base (L2.CX P w) 2 f fd ["thing", "many"] (lift ⟨K, w, T⟩ 2 sp_are_ends) :=
  fnD F sc_are_ends fun cdv A outer s H E hr tk hp => by
    have hu := hu_of hr
    have nd := sc_are_ends.nd
    exact ⟨m_are_ends, (ds_cons (ds_if (DW.t (dw_or (dt_not (dt_val (de_isA (t := .tup) bt_tuple rfl n_tuple rfl n_isinstance (de_var (i := 0) rfl (vis_by rfl))))) (dw_or1 (dt_not (dt_val (de_callB (cd_all rfl) rfl n_all bt_all (da_cons (de_lc (own := [("one", 2)]) rfl nd (di_seq (de_var (i := 0) rfl (vis_by rfl))) (blkOk_by rfl) (by decide) (fun _ _ _ _ _ => (pg_name (i := 2) nd rfl (loc_by rfl))) (fun _ _ _ _ _ => dts_nil) (fun _ _ _ _ _ => (de_fn H_is_within rfl hr (by decide) rfl takesF (da_cons (de_var (i := 2) rfl (vis_by rfl)) (da_cons de_int (da_cons (de_bin or_sub (de_var (i := 1) rfl (vis_by rfl)) de_int) da_nil)))))) da_nil))))))) (ds_one (ds_ret de_bl)) ds_nil) (ds_one (ds_ret (de_cmp (or_eq (hu_64 hu)) (de_callTy (cd_list rfl) rfl n_list bt_list (da_cons (de_var (i := 0) rfl (vis_by rfl)) da_nil)) (de_sortSet rfl rfl n_sorted bt_sorted rfl n_set bt_set (de_var (i := 0) rfl (vis_by rfl))))))), ok_are_ends⟩

theorem sc_is_machine : FnScope N_is_machine ["thing"] (defScope s_is_machine) := ⟨rfl, rfl, rfl, by decide +kernel, rfl, by decide +kernel, by decide +kernel⟩
theorem w_is_machine {P : Program} {w : World} {K : PySem.W.Frag} {mg : Str → Option Value} {base : Heap} {T : Tb} (n_isinstance : mg "isinstance" = none) (n_tuple : mg "tuple" = none) (n_len : mg "len" = none) (H_are_letters : Has P w K mg base T 1 "are_letters" ["thing"] sp_are_letters) (c_MOST_STATES : ∃ t, mg "MOST_STATES" = some (.int 6 t)) (n_all : mg "all" = none) (H_is_state : Has P w K mg base T 2 "is_state" ["thing", "letters", "many"] sp_is_state) (H_are_ends : Has P w K mg base T 2 "are_ends" ["thing", "many"] sp_are_ends) {f : Addr} {fd : FuncData} (F : FunD K "is_machine" "is_machine" (defArgs s_is_machine) (defBody s_is_machine) (defScope s_is_machine) [] [] f fd) :
    FnOk P w K mg base (L2.CX P w) 3 f fd ["thing"] (lift ⟨K, w, T⟩ 1 sp_is_machine) :=
  fnD F sc_is_machine fun cdv A outer s H E hr tk hp => by
    have hu := hu_of hr
    have nd := sc_is_machine.nd
    exact ⟨m_is_machine, (ds_cons (ds_if (DW.t (dw_or (dt_not (dt_val (de_isA (t := .tup) bt_tuple rfl n_tuple rfl n_isinstance (de_var (i := 0) rfl (vis_by rfl))))) (dw_or (dt_cmp (or_ne (hu_64 hu)) (de_callB cd_len rfl n_len bt_len (da_cons (de_var (i := 0) rfl (vis_by rfl)) da_nil)) de_int) (dw_or1 (dt_not (dt_val (de_fn H_are_letters rfl hr (by decide) rfl tk (da_cons (de_ix ix_d (de_var (i := 0) rfl (vis_by rfl)) de_int fun _ _ => rfl) da_nil)))))))) (ds_one (ds_ret de_bl)) ds_nil) (ds_cons (ds_asg (de_var (i := 0) rfl (vis_by rfl)) (dg_tup rfl (dgs_cons (dg_name (i := 1) nd rfl (loc_by rfl)) (dgs_cons (dg_name (i := 2) nd rfl (loc_by rfl)) (dgs_cons (dg_name (i := 3) nd rfl (loc_by rfl)) dgs_nil))))) (ds_cons (ds_if (DW.t (dw_or (dt_not (dt_val (de_isA (t := .tup) bt_tuple rfl n_tuple rfl n_isinstance (de_var (i := 2) rfl (vis_by rfl))))) (dw_or1 (dt_not (dt_chain or_le or_le de_int (de_callB cd_len rfl n_len bt_len (da_cons (de_var (i := 2) rfl (vis_by rfl)) da_nil)) (de_gi c_MOST_STATES rfl)))))) (ds_one (ds_ret de_bl)) ds_nil) (ds_one (ds_ret (de_and (de_callB (cd_all rfl) rfl n_all bt_all (da_cons (de_lc (own := [("one", 4)]) rfl nd (di_seq (de_var (i := 2) rfl (vis_by rfl))) (blkOk_by rfl) (by decide) (fun _ _ _ _ _ => (pg_name (i := 4) nd rfl (loc_by rfl))) (fun _ _ _ _ _ => dts_nil) (fun _ _ _ _ _ => (de_fn H_is_state rfl hr (by decide) rfl takesF (da_cons (de_var (i := 4) rfl (vis_by rfl)) (da_cons (de_var (i := 1) rfl (vis_by rfl)) (da_cons (de_callB cd_len rfl n_len bt_len (da_cons (de_var (i := 2) rfl (vis_by rfl)) da_nil)) da_nil)))))) da_nil)) (de_one (de_fn H_are_ends rfl hr (by decide) rfl tk (da_cons (de_var (i := 3) rfl (vis_by rfl)) (da_cons (de_callB cd_len rfl n_len bt_len (da_cons (de_var (i := 2) rfl (vis_by rfl)) da_nil)) da_nil)))))))))), ok_is_machine⟩

theorem sc_need_machine : FnScope N_need_machine ["thing"] (defScope s_need_machine) := ⟨rfl, rfl, rfl, by decide +kernel, rfl, by decide +kernel, by decide +kernel⟩
theorem w_need_machine {P : Program} {w : World} {K : PySem.W.Frag} {mg : Str → Option Value} {base : Heap} {T : Tb} (H_is_machine : Has P w K mg base T 3 "is_machine" ["thing"] sp_is_machine) (X_NoMachine : HasEx K mg T "NoMachine" .machine) {f : Addr} {fd : FuncData} (F : FunD K "need_machine" "need_machine" (defArgs s_need_machine) (defBody s_need_machine) (defScope s_need_machine) [] [] f fd) :
    FnOk P w K mg base (L2.CX P w) 4 f fd ["thing"] (lift ⟨K, w, T⟩ 1 sp_need_machine) :=
  fnD F sc_need_machine fun cdv A outer s H E hr tk hp => by
    have hu := hu_of hr
    have nd := sc_need_machine.nd
    exact ⟨m_need_machine, (ds_one (ds_if (dt_not (dt_val (de_fn H_is_machine rfl hr (by decide) rfl tk (da_cons (de_var (i := 0) rfl (vis_by rfl)) da_nil)))) (ds_one (ds_raise (C := .machine) rfl tk PySem.F.excBase_ValueError X_NoMachine.ok X_NoMachine.at_ X_NoMachine.kp (raises_own X_NoMachine.sub X_NoMachine.ty) rfl)) ds_nil)), ok_need_machine⟩

theorem sc_is_made_of : FnScope N_is_made_of ["text", "letters"] (defScope s_is_made_of) := ⟨rfl, rfl, rfl, by decide +kernel, rfl, by decide +kernel, by decide +kernel⟩
theorem w_is_made_of {P : Program} {w : World} {K : PySem.W.Frag} {mg : Str → Option Value} {base : Heap} {T : Tb} (n_all : mg "all" = none) {f : Addr} {fd : FuncData} (F : FunD K "is_made_of" "is_made_of" (defArgs s_is_made_of) (defBody s_is_made_of) (defScope s_is_made_of) [] [] f fd) :
    FnOk P w K mg base (L2.CX P w) 1 f fd ["text", "letters"] (lift ⟨K, w, T⟩ 2 sp_is_made_of) :=
  fnD F sc_is_made_of fun cdv A outer s H E hr tk hp => by
    have hu := hu_of hr
    have nd := sc_is_made_of.nd
    exact ⟨m_is_made_of, (ds_one (ds_ret (de_callB (cd_all rfl) rfl n_all bt_all (da_cons (de_lc (own := [("sign", 2)]) rfl nd (di_seq (de_var (i := 0) rfl (vis_by rfl))) (blkOk_by rfl) (by decide) (fun _ _ _ _ _ => (pg_name (i := 2) nd rfl (loc_by rfl))) (fun _ _ _ _ _ => dts_nil) (fun _ _ _ _ _ => (de_cmp (or_in hu) (de_var (i := 2) rfl (vis_by rfl)) (de_var (i := 1) rfl (vis_by rfl))))) da_nil)))), ok_is_made_of⟩

theorem sc_is_text : FnScope N_is_text ["thing", "letters"] (defScope s_is_text) := ⟨rfl, rfl, rfl, by decide +kernel, rfl, by decide +kernel, by decide +kernel⟩
theorem w_is_text {P : Program} {w : World} {K : PySem.W.Frag} {mg : Str → Option Value} {base : Heap} {T : Tb} (n_isinstance : mg "isinstance" = none) (n_str : mg "str" = none) (n_len : mg "len" = none) (c_MOST_SIGNS : ∃ t, mg "MOST_SIGNS" = some (.int 200 t)) (H_is_made_of : Has P w K mg base T 1 "is_made_of" ["text", "letters"] sp_is_made_of) {f : Addr} {fd : FuncData} (F : FunD K "is_text" "is_text" (defArgs s_is_text) (defBody s_is_text) (defScope s_is_text) [] [] f fd) :
    FnOk P w K mg base (L2.CX P w) 2 f fd ["thing", "letters"] (lift ⟨K, w, T⟩ 2 sp_is_text) :=
  fnD F sc_is_text fun cdv A outer s H E hr tk hp => by
    have hu := hu_of hr
    have nd := sc_is_text.nd
    exact ⟨m_is_text, (ds_one (ds_ret (de_and (de_isA (t := .str) bt_str rfl n_str rfl n_isinstance (de_var (i := 0) rfl (vis_by rfl))) (de_and (de_cmp or_le (de_callB cd_len rfl n_len bt_len (da_cons (de_var (i := 0) rfl (vis_by rfl)) da_nil)) (de_gi c_MOST_SIGNS rfl)) (de_one (de_fn H_is_made_of rfl hr (by decide) rfl tk (da_cons (de_var (i := 0) rfl (vis_by rfl)) (da_cons (de_var (i := 1) rfl (vis_by rfl)) da_nil)))))))), ok_is_text⟩

theorem sc_need_text : FnScope N_need_text ["thing", "letters"] (defScope s_need_text) := ⟨rfl, rfl, rfl, by decide +kernel, rfl, by decide +kernel, by decide +kernel⟩
theorem w_need_text {P : Program} {w : World} {K : PySem.W.Frag} {mg : Str → Option Value} {base : Heap} {T : Tb} (H_is_text : Has P w K mg base T 2 "is_text" ["thing", "letters"] sp_is_text) (X_NoWord : HasEx K mg T "NoWord" .word) {f : Addr} {fd : FuncData} (F : FunD K "need_text" "need_text" (defArgs s_need_text) (defBody s_need_text) (defScope s_need_text) [] [] f fd) :
    FnOk P w K mg base (L2.CX P w) 3 f fd ["thing", "letters"] (lift ⟨K, w, T⟩ 2 sp_need_text) :=
  fnD F sc_need_text fun cdv A outer s H E hr tk hp => by
    have hu := hu_of hr
    have nd := sc_need_text.nd
    exact ⟨m_need_text, (ds_one (ds_if (dt_not (dt_val (de_fn H_is_text rfl hr (by decide) rfl tk (da_cons (de_var (i := 0) rfl (vis_by rfl)) (da_cons (de_var (i := 1) rfl (vis_by rfl)) da_nil))))) (ds_one (ds_raise (C := .word) rfl tk PySem.F.excBase_ValueError X_NoWord.ok X_NoWord.at_ X_NoWord.kp (raises_own X_NoWord.sub X_NoWord.ty) rfl)) ds_nil)), ok_need_text⟩

theorem sc_gone_on : FnScope N_gone_on ["machine", "state", "word"] (defScope s_gone_on) := ⟨rfl, rfl, rfl, by decide +kernel, rfl, by decide +kernel, by decide +kernel⟩
theorem w_gone_on {P : Program} {w : World} {K : PySem.W.Frag} {mg : Str → Option Value} {base : Heap} {T : Tb}  {f : Addr} {fd : FuncData} (F : FunD K "gone_on" "gone_on" (defArgs s_gone_on) (defBody s_gone_on) (defScope s_gone_on) [] [] f fd) :
    FnOk P w K mg base (L2.CX P w) 1 f fd ["machine", "state", "word"] (lift ⟨K, w, T⟩ 3 sp_gone_on) :=
  fnD F sc_gone_on fun cdv A outer s H E hr tk hp => by
    have hu := hu_of hr
    have nd := sc_gone_on.nd
    exact ⟨m_gone_on, (ds_cons (ds_for hp rfl (di_seq (de_var (i := 2) rfl (vis_by rfl))) (dg_name (i := 3) nd rfl (loc_by rfl)) (ds_cons (ds_set (i := 1) nd rfl (loc_by rfl) (de_ix ix_d (de_ix ix_d (de_ix ix_d (de_var (i := 0) rfl (vis_by rfl)) de_int fun _ _ => rfl) (de_var (i := 1) rfl (vis_by rfl)) fun _ _ => rfl) (de_mt PySem.F.plainAttrs_str PySem.F.slot_str_index PySem.F.type_str_index md_index (de_ix ix_d (de_var (i := 0) rfl (vis_by rfl)) de_int fun _ _ => rfl) (da_cons (de_var (i := 3) rfl (vis_by rfl)) da_nil)) fun _ _ => rfl)) (ds_one (ds_if (dt_cmp or_isN (de_var (i := 1) rfl (vis_by rfl)) de_non) (ds_one (ds_ret de_non)) ds_nil)))) (ds_one (ds_ret (de_var (i := 1) rfl (vis_by rfl))))), ok_gone_on⟩

theorem sc_raw_has : FnScope N_raw_has ["machine", "word"] (defScope s_raw_has) := ⟨rfl, rfl, rfl, by decide +kernel, rfl, by decide +kernel, by decide +kernel⟩
theorem w_raw_has {P : Program} {w : World} {K : PySem.W.Frag} {mg : Str → Option Value} {base : Heap} {T : Tb} (H_gone_on : Has P w K mg base T 1 "gone_on" ["machine", "state", "word"] sp_gone_on) {f : Addr} {fd : FuncData} (F : FunD K "raw_has" "raw_has" (defArgs s_raw_has) (defBody s_raw_has) (defScope s_raw_has) [] [] f fd) :
    FnOk P w K mg base (L2.CX P w) 2 f fd ["machine", "word"] (lift ⟨K, w, T⟩ 2 sp_raw_has) :=
  fnD F sc_raw_has fun cdv A outer s H E hr tk hp => by
    have hu := hu_of hr
    have nd := sc_raw_has.nd
    exact ⟨m_raw_has, (ds_one (ds_ret (de_cmp (or_in hu) (de_fn H_gone_on rfl hr (by decide) rfl tk (da_cons (de_var (i := 0) rfl (vis_by rfl)) (da_cons de_int (da_cons (de_var (i := 1) rfl (vis_by rfl)) da_nil)))) (de_ix ix_d (de_var (i := 0) rfl (vis_by rfl)) de_int fun _ _ => rfl)))), ok_raw_has⟩

theorem sc_has_word : FnScope N_has_word ["machine", "word"] (defScope s_has_word) := ⟨rfl, rfl, rfl, by decide +kernel, rfl, by decide +kernel, by decide +kernel⟩
theorem w_has_word {P : Program} {w : World} {K : PySem.W.Frag} {mg : Str → Option Value} {base : Heap} {T : Tb} (H_need_machine : Has P w K mg base T 4 "need_machine" ["thing"] sp_need_machine) (H_need_text : Has P w K mg base T 3 "need_text" ["thing", "letters"] sp_need_text) (H_raw_has : Has P w K mg base T 2 "raw_has" ["machine", "word"] sp_raw_has) {f : Addr} {fd : FuncData} (F : FunD K "has_word" "has_word" (defArgs s_has_word) (defBody s_has_word) (defScope s_has_word) [] [] f fd) :
    FnOk P w K mg base (L2.CX P w) 5 f fd ["machine", "word"] (lift ⟨K, w, T⟩ 2 sp_has_word) :=
  fnD F sc_has_word fun cdv A outer s H E hr tk hp => by
    have hu := hu_of hr
    have nd := sc_has_word.nd
    exact ⟨m_has_word, (ds_cons (ds_expr (de_fn H_need_machine rfl hr (by decide) rfl tk (da_cons (de_var (i := 0) rfl (vis_by rfl)) da_nil))) (ds_cons (ds_expr (de_fn H_need_text rfl hr (by decide) rfl tk (da_cons (de_var (i := 1) rfl (vis_by rfl)) (da_cons (de_ix ix_d (de_var (i := 0) rfl (vis_by rfl)) de_int fun _ _ => rfl) da_nil)))) (ds_one (ds_ret (de_fn H_raw_has rfl hr (by decide) rfl tk (da_cons (de_var (i := 0) rfl (vis_by rfl)) (da_cons (de_var (i := 1) rfl (vis_by rfl)) da_nil))))))), ok_has_word⟩

theorem sc_living : FnScope N_living ["machine"] (defScope s_living) := ⟨rfl, rfl, rfl, by decide +kernel, rfl, by decide +kernel, by decide +kernel⟩
theorem w_living {P : Program} {w : World} {K : PySem.W.Frag} {mg : Str → Option Value} {base : Heap} {T : Tb} (n_enumerate : mg "enumerate" = none) (n_any : mg "any" = none) {f : Addr} {fd : FuncData} (F : FunD K "living" "living" (defArgs s_living) (defBody s_living) (defScope s_living) [] [] f fd) :
    FnOk P w K mg base (L2.CX P w) 1 f fd ["machine"] (lift ⟨K, w, T⟩ 1 sp_living) :=
  fnD F sc_living fun cdv A outer s H E hr tk hp => by
    have hu := hu_of hr
    have nd := sc_living.nd
    exact ⟨m_living, (ds_cons (ds_asg (de_tup (da_cons (de_dcK (own := [("end", 4)]) rfl nd (di_seq (de_ix ix_d (de_var (i := 0) rfl (vis_by rfl)) de_int fun _ _ => rfl)) (blkOk_by rfl) (by decide) (fun _ _ _ _ _ => (pg_name (i := 4) nd rfl (loc_by rfl))) (fun _ _ _ _ _ => dts_nil) (fun _ _ _ _ _ => (de_var (i := 4) rfl (vis_by rfl))) (fun _ _ _ _ _ => de_bl)) (da_cons de_bl da_nil))) (dg_tup rfl (dgs_cons (dg_name (i := 1) nd rfl (loc_by rfl)) (dgs_cons (dg_name (i := 2) nd rfl (loc_by rfl)) dgs_nil)))) (ds_cons (ds_while hp (dt_val (de_var (i := 2) rfl (vis_by rfl))) (ds_cons (ds_setLc (i := 3) (own := [("k", 5), ("row", 6)]) rfl nd rfl rfl rfl (di_enum rfl n_enumerate (da_cons (de_ix ix_d (de_var (i := 0) rfl (vis_by rfl)) de_int fun _ _ => rfl) da_nil)) (blkOk_by rfl) (by decide) (fun _ _ _ _ _ => (pg_tup rfl (pgs_cons (pg_name (i := 5) nd rfl (loc_by rfl)) (pgs_cons (pg_name (i := 6) nd rfl (loc_by rfl)) pgs_nil)))) (fun _ _ _ _ _ => (dts_one (DW.t (dw_and (dt_cmp (or_notIn hu) (de_var (i := 5) rfl (vis_by rfl)) (de_var (i := 1) rfl (vis_by rfl))) (dw_and1 (dt_val (de_callB (cd_any rfl) rfl n_any bt_any (da_cons (de_lc (own := [("after", 7)]) rfl nd (di_seq (de_var (i := 6) rfl (vis_by rfl))) (blkOk_by rfl) (by decide) (fun _ _ _ _ _ => (pg_name (i := 7) nd rfl (loc_by rfl))) (fun _ _ _ _ _ => dts_nil) (fun _ _ _ _ _ => (de_cmp (or_in hu) (de_var (i := 7) rfl (vis_by rfl)) (de_var (i := 1) rfl (vis_by rfl))))) da_nil)))))))) (fun _ _ _ _ _ => (de_var (i := 5) rfl (vis_by rfl)))) (ds_cons (ds_expr (de_mt PySem.F.plainAttrs_dict PySem.F.slot_dict_update PySem.F.type_dict_update md_update (de_var (i := 1) rfl (vis_by rfl)) (da_cons (de_dcK (own := [("k", 5)]) rfl nd (di_seq (de_var (i := 3) rfl (vis_by rfl))) (blkOk_by rfl) (by decide) (fun _ _ _ _ _ => (pg_name (i := 5) nd rfl (loc_by rfl))) (fun _ _ _ _ _ => dts_nil) (fun _ _ _ _ _ => (de_var (i := 5) rfl (vis_by rfl))) (fun _ _ _ _ _ => de_bl)) da_nil))) (ds_one (ds_set (i := 2) nd rfl (loc_by rfl) (de_cmp (or_ne (hu_64 hu)) (de_var (i := 3) rfl (vis_by rfl)) (de_lst da_nil))))))) (ds_one (ds_ret (de_var (i := 1) rfl (vis_by rfl)))))), ok_living⟩

theorem sc_nexts : FnScope N_nexts ["machine", "state"] (defScope s_nexts) := ⟨rfl, rfl, rfl, by decide +kernel, rfl, by decide +kernel, by decide +kernel⟩
theorem w_nexts {P : Program} {w : World} {K : PySem.W.Frag} {mg : Str → Option Value} {base : Heap} {T : Tb} (n_list : mg "list" = none) (n_zip : mg "zip" = none) {f : Addr} {fd : FuncData} (F : FunD K "nexts" "nexts" (defArgs s_nexts) (defBody s_nexts) (defScope s_nexts) [] [] f fd) :
    FnOk P w K mg base (L2.CX P w) 1 f fd ["machine", "state"] (lift ⟨K, w, T⟩ 2 sp_nexts) :=
  fnD F sc_nexts fun cdv A outer s H E hr tk hp => by
    have hu := hu_of hr
    have nd := sc_nexts.nd
    exact ⟨m_nexts, (ds_cons (ds_set (i := 2) nd rfl (loc_by rfl) (de_listZip rfl rfl n_list bt_list rfl n_zip bt_zip (da_cons (de_ix ix_d (de_var (i := 0) rfl (vis_by rfl)) de_int fun _ _ => rfl) (da_cons (de_ix ix_d (de_ix ix_d (de_var (i := 0) rfl (vis_by rfl)) de_int fun _ _ => rfl) (de_var (i := 1) rfl (vis_by rfl)) fun _ _ => rfl) da_nil)))) (ds_one (ds_ret (de_lc (own := [("letter", 3), ("after", 4)]) rfl nd (di_seq (de_var (i := 2) rfl (vis_by rfl))) (blkOk_by rfl) (by decide) (fun _ _ _ _ _ => (pg_tup rfl (pgs_cons (pg_name (i := 3) nd rfl (loc_by rfl)) (pgs_cons (pg_name (i := 4) nd rfl (loc_by rfl)) pgs_nil)))) (fun _ _ _ _ _ => (dts_one (dt_cmp or_notN (de_var (i := 4) rfl (vis_by rfl)) de_non))) (fun _ _ _ _ _ => (de_tup (da_cons (de_var (i := 3) rfl (vis_by rfl)) (da_cons (de_var (i := 4) rfl (vis_by rfl)) da_nil)))))))), ok_nexts⟩

theorem sc_raw_first : FnScope N_raw_first ["machine", "many"] (defScope s_raw_first) := ⟨rfl, rfl, rfl, by decide +kernel, rfl, by decide +kernel, by decide +kernel⟩
theorem w_raw_first {P : Program} {w : World} {K : PySem.W.Frag} {mg : Str → Option Value} {base : Heap} {T : Tb} (H_living : Has P w K mg base T 1 "living" ["machine"] sp_living) (n_len : mg "len" = none) (H_nexts : Has P w K mg base T 1 "nexts" ["machine", "state"] sp_nexts) {f : Addr} {fd : FuncData} (F : FunD K "raw_first" "raw_first" (defArgs s_raw_first) (defBody s_raw_first) (defScope s_raw_first) [] [] f fd) :
    FnOk P w K mg base (L2.CX P w) 2 f fd ["machine", "many"] (lift ⟨K, w, T⟩ 2 sp_raw_first) :=
  fnD F sc_raw_first fun cdv A outer s H E hr tk hp => by
    have hu := hu_of hr
    have nd := sc_raw_first.nd
    exact ⟨m_raw_first, (ds_cons (ds_asg (de_tup (da_cons (de_fn H_living rfl hr (by decide) rfl tk (da_cons (de_var (i := 0) rfl (vis_by rfl)) da_nil)) (da_cons (de_lst da_nil) da_nil))) (dg_tup rfl (dgs_cons (dg_name (i := 3) nd rfl (loc_by rfl)) (dgs_cons (dg_name (i := 4) nd rfl (loc_by rfl)) dgs_nil)))) (ds_cons (ds_set (i := 2) nd rfl (loc_by rfl) (de_if (dt_cmp (or_in hu) de_int (de_var (i := 3) rfl (vis_by rfl))) (de_lst (da_cons (de_tup (da_cons (de_str (z := [])) (da_cons de_int da_nil))) da_nil)) (de_lst da_nil))) (ds_cons (ds_while hp (DW.t (dw_and (dt_cmp (or_ne (hu_64 hu)) (de_var (i := 2) rfl (vis_by rfl)) (de_lst da_nil)) (dw_and1 (dt_cmp or_lt (de_callB cd_len rfl n_len bt_len (da_cons (de_var (i := 4) rfl (vis_by rfl)) da_nil)) (de_var (i := 1) rfl (vis_by rfl)))))) (ds_cons (ds_expr (de_mt PySem.F.plainAttrs_list PySem.F.slot_list_extend PySem.F.type_list_extend md_extend (de_var (i := 4) rfl (vis_by rfl)) (da_cons (de_lc (own := [("word", 5), ("state", 6)]) rfl nd (di_seq (de_var (i := 2) rfl (vis_by rfl))) (blkOk_by rfl) (by decide) (fun _ _ _ _ _ => (pg_tup rfl (pgs_cons (pg_name (i := 5) nd rfl (loc_by rfl)) (pgs_cons (pg_name (i := 6) nd rfl (loc_by rfl)) pgs_nil)))) (fun _ _ _ _ _ => (dts_one (dt_cmp (or_in hu) (de_var (i := 6) rfl (vis_by rfl)) (de_ix ix_d (de_var (i := 0) rfl (vis_by rfl)) de_int fun _ _ => rfl)))) (fun _ _ _ _ _ => (de_var (i := 5) rfl (vis_by rfl)))) da_nil))) (ds_one (ds_setLc2 (i := 2) (own := [("word", 5), ("state", 6), ("c", 7), ("q", 8)]) (vs1 := [7, 8]) rfl nd rfl rfl rfl (di_seq (de_var (i := 2) rfl (vis_by rfl))) (blkOk_by rfl) (by decide) (by decide) (by decide) (fun _ _ _ _ _ => (pg_tup rfl (pgs_cons (pg_name (i := 5) nd rfl (loc_by rfl)) (pgs_cons (pg_name (i := 6) nd rfl (loc_by rfl)) pgs_nil)))) (fun _ _ _ _ _ => dts_nil) (fun _ _ _ _ _ => (di_seq (de_fn H_nexts rfl hr (by decide) rfl takesF (da_cons (de_var (i := 0) rfl (vis_by rfl)) (da_cons (de_var (i := 6) rfl (vis_by rfl)) da_nil))))) (fun _ _ _ _ _ => (pg_tup rfl (pgs_cons (pg_name (i := 7) nd rfl (loc_by rfl)) (pgs_cons (pg_name (i := 8) nd rfl (loc_by rfl)) pgs_nil)))) (fun _ _ _ _ _ => (dts_one (dt_cmp (or_in hu) (de_var (i := 8) rfl (vis_by rfl)) (de_var (i := 3) rfl (vis_by rfl))))) (fun _ _ _ _ _ => (de_tup (da_cons (de_bin or_add (de_var (i := 5) rfl (vis_by rfl)) (de_var (i := 7) rfl (vis_by rfl))) (da_cons (de_var (i := 8) rfl (vis_by rfl)) da_nil)))))))) (ds_one (ds_ret (de_slice (de_var (i := 4) rfl (vis_by rfl)) do_none (do_some (de_var (i := 1) rfl (vis_by rfl))))))))), ok_raw_first⟩

theorem sc_need_many : FnScope N_need_many ["many"] (defScope s_need_many) := ⟨rfl, rfl, rfl, by decide +kernel, rfl, by decide +kernel, by decide +kernel⟩
theorem w_need_many {P : Program} {w : World} {K : PySem.W.Frag} {mg : Str → Option Value} {base : Heap} {T : Tb} (H_is_within : Has P w K mg base T 1 "is_within" ["thing", "least", "most"] sp_is_within) (c_MOST_WORDS : ∃ t, mg "MOST_WORDS" = some (.int 40 t)) (X_NoCount : HasEx K mg T "NoCount" .count) {f : Addr} {fd : FuncData} (F : FunD K "need_many" "need_many" (defArgs s_need_many) (defBody s_need_many) (defScope s_need_many) [] [] f fd) :
    FnOk P w K mg base (L2.CX P w) 2 f fd ["many"] (lift ⟨K, w, T⟩ 1 sp_need_many) :=
  fnD F sc_need_many fun cdv A outer s H E hr tk hp => by
    have hu := hu_of hr
    have nd := sc_need_many.nd
    exact ⟨m_need_many, (ds_one (ds_if (dt_not (dt_val (de_fn H_is_within rfl hr (by decide) rfl tk (da_cons (de_var (i := 0) rfl (vis_by rfl)) (da_cons de_int (da_cons (de_gi c_MOST_WORDS rfl) da_nil)))))) (ds_one (ds_raise (C := .count) rfl tk PySem.F.excBase_ValueError X_NoCount.ok X_NoCount.at_ X_NoCount.kp (raises_own X_NoCount.sub X_NoCount.ty) rfl)) ds_nil)), ok_need_many⟩

theorem sc_first_words : FnScope N_first_words ["machine", "many"] (defScope s_first_words) := ⟨rfl, rfl, rfl, by decide +kernel, rfl, by decide +kernel, by decide +kernel⟩
theorem w_first_words {P : Program} {w : World} {K : PySem.W.Frag} {mg : Str → Option Value} {base : Heap} {T : Tb} (H_need_machine : Has P w K mg base T 4 "need_machine" ["thing"] sp_need_machine) (H_need_many : Has P w K mg base T 2 "need_many" ["many"] sp_need_many) (H_raw_first : Has P w K mg base T 2 "raw_first" ["machine", "many"] sp_raw_first) {f : Addr} {fd : FuncData} (F : FunD K "first_words" "first_words" (defArgs s_first_words) (defBody s_first_words) (defScope s_first_words) [] [] f fd) :
    FnOk P w K mg base (L2.CX P w) 5 f fd ["machine", "many"] (lift ⟨K, w, T⟩ 2 sp_first_words) :=
  fnD F sc_first_words fun cdv A outer s H E hr tk hp => by
    have hu := hu_of hr
    have nd := sc_first_words.nd
    exact ⟨m_first_words, (ds_cons (ds_expr (de_fn H_need_machine rfl hr (by decide) rfl tk (da_cons (de_var (i := 0) rfl (vis_by rfl)) da_nil))) (ds_cons (ds_expr (de_fn H_need_many rfl hr (by decide) rfl tk (da_cons (de_var (i := 1) rfl (vis_by rfl)) da_nil))) (ds_one (ds_ret (de_fn H_raw_first rfl hr (by decide) rfl tk (da_cons (de_var (i := 0) rfl (vis_by rfl)) (da_cons (de_var (i := 1) rfl (vis_by rfl)) da_nil))))))), ok_first_words⟩

theorem sc__law_open : FnScope N__law_open ["script"] (defScope s__law_open) := ⟨rfl, rfl, rfl, by decide +kernel, rfl, by decide +kernel, by decide +kernel⟩
theorem w__law_open {P : Program} {w : World} {K : PySem.W.Frag} {mg : Str → Option Value} {base : Heap} {T : Tb} (n_list : mg "list" = none) (n_enumerate : mg "enumerate" = none) (n_int : mg "int" = none) {f : Addr} {fd : FuncData} (F : FunD K "_law_open" "_law_open" (defArgs s__law_open) (defBody s__law_open) (defScope s__law_open) [] [] f fd) :
    FnOk P w K mg base (L2.CX P w) 1 f fd ["script"] (lift ⟨K, w, T⟩ 1 sp__law_open) :=
  fnD F sc__law_open fun cdv A outer s H E hr tk hp => by
    have hu := hu_of hr
    have nd := sc__law_open.nd
    exact ⟨m__law_open, (ds_cons (ds_set (i := 1) nd rfl (loc_by rfl) (de_callTy (cd_list rfl) rfl n_list bt_list (da_cons (de_slice (de_var (i := 0) rfl (vis_by rfl)) do_none (do_some de_int)) da_nil))) (ds_cons (ds_for hp rfl (di_enum rfl n_enumerate (da_cons (de_slice (de_var (i := 0) rfl (vis_by rfl)) (do_some de_int) (do_some de_int)) da_nil)) (dg_tup rfl (dgs_cons (dg_name (i := 2) nd rfl (loc_by rfl)) (dgs_cons (dg_name (i := 3) nd rfl (loc_by rfl)) dgs_nil))) (ds_one (ds_setI set_l (de_var (i := 1) rfl (vis_by rfl)) (de_bin or_mod (de_callTy cd_int rfl n_int bt_int (da_cons (de_var (i := 2) rfl (vis_by rfl)) da_nil)) de_int) (de_bin or_add (de_ix ix_d (de_var (i := 1) rfl (vis_by rfl)) (de_bin or_mod (de_callTy cd_int rfl n_int bt_int (da_cons (de_var (i := 2) rfl (vis_by rfl)) da_nil)) de_int) fun _ _ => rfl) (de_var (i := 3) rfl (vis_by rfl)))))) (ds_one (ds_ret (de_lst (da_cons (de_var (i := 1) rfl (vis_by rfl)) (da_cons de_int (da_cons de_int da_nil)))))))), ok__law_open⟩

theorem sc__law_spread : FnScope N__law_spread ["cell", "k"] (defScope s__law_spread) := ⟨rfl, rfl, rfl, by decide +kernel, rfl, by decide +kernel, by decide +kernel⟩
theorem w__law_spread {P : Program} {w : World} {K : PySem.W.Frag} {mg : Str → Option Value} {base : Heap} {T : Tb} (n_int : mg "int" = none) {f : Addr} {fd : FuncData} (F : FunD K "_law_spread" "_law_spread" (defArgs s__law_spread) (defBody s__law_spread) (defScope s__law_spread) [] [] f fd) :
    FnOk P w K mg base (L2.CX P w) 1 f fd ["cell", "k"] (lift ⟨K, w, T⟩ 2 sp__law_spread) :=
  fnD F sc__law_spread fun cdv A outer s H E hr tk hp => by
    have hu := hu_of hr
    have nd := sc__law_spread.nd
    exact ⟨m__law_spread, (ds_cons (ds_if (dt_cmp or_ge (de_var (i := 0) rfl (vis_by rfl)) (de_bin or_pow de_int de_int)) (ds_one (ds_ret (de_var (i := 0) rfl (vis_by rfl)))) ds_nil) (ds_cons (ds_set (i := 2) nd rfl (loc_by rfl) (de_lst (da_cons de_int (da_cons de_int (da_cons de_int (da_cons de_int (da_cons de_int (da_cons de_int (da_cons de_int (da_cons de_int da_nil)))))))))) (ds_cons (ds_set (i := 2) nd rfl (loc_by rfl) (de_bin or_add (de_var (i := 2) rfl (vis_by rfl)) (de_lst (da_cons de_int (da_cons de_int (da_cons de_int (da_cons de_int (da_cons de_int da_nil)))))))) (ds_cons (ds_set (i := 3) nd rfl (loc_by rfl) (de_bin or_mul (de_bin or_mod (de_callTy cd_int rfl n_int bt_int (da_cons (de_var (i := 0) rfl (vis_by rfl)) da_nil)) de_int) (de_bin or_add (de_bin or_mul de_int (de_var (i := 1) rfl (vis_by rfl))) de_int))) (ds_cons (ds_set (i := 3) nd rfl (loc_by rfl) (de_bin or_mod (de_callTy cd_int rfl n_int bt_int (da_cons (de_bin or_pow (de_bin or_add (de_bin or_add (de_var (i := 3) rfl (vis_by rfl)) (de_bin or_mul (de_var (i := 1) rfl (vis_by rfl)) de_int)) de_int) de_int) da_nil)) (de_ix ix_d (de_var (i := 2) rfl (vis_by rfl)) (de_bin or_mod (de_callTy cd_int rfl n_int bt_int (da_cons (de_var (i := 1) rfl (vis_by rfl)) da_nil)) de_int) fun _ _ => rfl))) (ds_cons (ds_set (i := 4) nd rfl (loc_by rfl) (de_bin or_mod (de_callTy cd_int rfl n_int bt_int (da_cons (de_bin or_pow (de_bin or_add (de_bin or_add (de_bin or_mul (de_var (i := 3) rfl (vis_by rfl)) (de_bin or_add (de_var (i := 1) rfl (vis_by rfl)) de_int)) (de_bin or_mod (de_callTy cd_int rfl n_int bt_int (da_cons (de_var (i := 0) rfl (vis_by rfl)) da_nil)) de_int)) de_int) de_int) da_nil)) (de_ix ix_d (de_var (i := 2) rfl (vis_by rfl)) (de_bin or_mod (de_callTy cd_int rfl n_int bt_int (da_cons (de_bin or_add (de_var (i := 1) rfl (vis_by rfl)) de_int) da_nil)) de_int) fun _ _ => rfl))) (ds_cons (ds_set (i := 5) nd rfl (loc_by rfl) (de_bin or_mod (de_callTy cd_int rfl n_int bt_int (da_cons (de_bin or_pow (de_bin or_add (de_bin or_add (de_var (i := 4) rfl (vis_by rfl)) (de_bin or_mod (de_callTy cd_int rfl n_int bt_int (da_cons (de_var (i := 3) rfl (vis_by rfl)) da_nil)) de_int)) (de_var (i := 1) rfl (vis_by rfl))) de_int) da_nil)) (de_ix ix_d (de_var (i := 2) rfl (vis_by rfl)) (de_bin or_mod (de_callTy cd_int rfl n_int bt_int (da_cons (de_bin or_add (de_var (i := 1) rfl (vis_by rfl)) de_int) da_nil)) de_int) fun _ _ => rfl))) (ds_one (ds_ret (de_bin or_add (de_bin or_mul (de_bin or_add (de_bin or_mul (de_var (i := 3) rfl (vis_by rfl)) de_int) (de_var (i := 4) rfl (vis_by rfl))) de_int) (de_var (i := 5) rfl (vis_by rfl)))))))))))), ok__law_spread⟩

theorem sc__law_take : FnScope N__law_take ["pen", "many"] (defScope s__law_take) := ⟨rfl, rfl, rfl, by decide +kernel, rfl, by decide +kernel, by decide +kernel⟩
theorem w__law_take {P : Program} {w : World} {K : PySem.W.Frag} {mg : Str → Option Value} {base : Heap} {T : Tb} (n_len : mg "len" = none) (n_int : mg "int" = none) (H__law_spread : Has P w K mg base T 1 "_law_spread" ["cell", "k"] sp__law_spread) {f : Addr} {fd : FuncData} (F : FunD K "_law_take" "_law_take" (defArgs s__law_take) (defBody s__law_take) (defScope s__law_take) [] [] f fd) :
    FnOk P w K mg base (L2.CX P w) 2 f fd ["pen", "many"] (lift ⟨K, w, T⟩ 2 sp__law_take) :=
  fnD F sc__law_take fun cdv A outer s H E hr tk hp => by
    have hu := hu_of hr
    have nd := sc__law_take.nd
    exact ⟨m__law_take, (ds_cons (ds_if (dt_cmp or_lt (de_ix ix_d (de_var (i := 0) rfl (vis_by rfl)) de_int fun _ _ => rfl) (de_var (i := 1) rfl (vis_by rfl))) (ds_cons (ds_set (i := 3) nd rfl (loc_by rfl) (de_ix ix_d (de_var (i := 0) rfl (vis_by rfl)) de_int fun _ _ => rfl)) (ds_cons (ds_set (i := 4) nd rfl (loc_by rfl) de_int) (ds_cons (ds_if (dt_cmp or_lt (de_var (i := 3) rfl (vis_by rfl)) (de_callB cd_len rfl n_len bt_len (da_cons (de_ix ix_d (de_var (i := 0) rfl (vis_by rfl)) de_int fun _ _ => rfl) da_nil))) (ds_one (ds_set (i := 4) nd rfl (loc_by rfl) (de_ix ix_d (de_ix ix_d (de_var (i := 0) rfl (vis_by rfl)) de_int fun _ _ => rfl) (de_var (i := 3) rfl (vis_by rfl)) fun _ _ => rfl))) (ds_one (ds_if (dt_cmp or_gt (de_callB cd_len rfl n_len bt_len (da_cons (de_ix ix_d (de_var (i := 0) rfl (vis_by rfl)) de_int fun _ _ => rfl) da_nil)) de_int) (ds_one (ds_set (i := 4) nd rfl (loc_by rfl) (de_bin or_mod (de_callTy cd_int rfl n_int bt_int (da_cons (de_ix ix_d (de_ix ix_d (de_var (i := 0) rfl (vis_by rfl)) de_int fun _ _ => rfl) (de_bin or_mod (de_callTy cd_int rfl n_int bt_int (da_cons (de_bin or_add (de_bin or_mul (de_var (i := 3) rfl (vis_by rfl)) de_int) de_int) da_nil)) (de_callB cd_len rfl n_len bt_len (da_cons (de_ix ix_d (de_var (i := 0) rfl (vis_by rfl)) de_int fun _ _ => rfl) da_nil))) fun _ _ => rfl) da_nil)) (de_bin or_add (de_bin or_pow de_int de_int) (de_var (i := 3) rfl (vis_by rfl)))))) ds_nil))) (ds_cons (ds_setI set_l (de_var (i := 0) rfl (vis_by rfl)) de_int (de_bin or_add (de_var (i := 3) rfl (vis_by rfl)) de_int)) (ds_one (ds_setI set_l (de_var (i := 0) rfl (vis_by rfl)) de_int (de_fn H__law_spread rfl hr (by decide) rfl tk (da_cons (de_var (i := 4) rfl (vis_by rfl)) (da_cons (de_var (i := 3) rfl (vis_by rfl)) da_nil))))))))) ds_nil) (ds_cons (ds_set (i := 2) nd rfl (loc_by rfl) (de_bin or_mod (de_callTy cd_int rfl n_int bt_int (da_cons (de_ix ix_d (de_var (i := 0) rfl (vis_by rfl)) de_int fun _ _ => rfl) da_nil)) (de_var (i := 1) rfl (vis_by rfl)))) (ds_cons (ds_setI set_l (de_var (i := 0) rfl (vis_by rfl)) de_int (de_bin or_fdiv (de_ix ix_d (de_var (i := 0) rfl (vis_by rfl)) de_int fun _ _ => rfl) (de_var (i := 1) rfl (vis_by rfl)))) (ds_one (ds_ret (de_var (i := 2) rfl (vis_by rfl))))))), ok__law_take⟩

theorem sc__law_one_of : FnScope N__law_one_of ["pen", "some"] (defScope s__law_one_of) := ⟨rfl, rfl, rfl, by decide +kernel, rfl, by decide +kernel, by decide +kernel⟩
theorem w__law_one_of {P : Program} {w : World} {K : PySem.W.Frag} {mg : Str → Option Value} {base : Heap} {T : Tb} (H__law_take : Has P w K mg base T 2 "_law_take" ["pen", "many"] sp__law_take) (n_len : mg "len" = none) {f : Addr} {fd : FuncData} (F : FunD K "_law_one_of" "_law_one_of" (defArgs s__law_one_of) (defBody s__law_one_of) (defScope s__law_one_of) [] [] f fd) :
    FnOk P w K mg base (L2.CX P w) 3 f fd ["pen", "some"] (lift ⟨K, w, T⟩ 2 sp__law_one_of) :=
  fnD F sc__law_one_of fun cdv A outer s H E hr tk hp => by
    have hu := hu_of hr
    have nd := sc__law_one_of.nd
    exact ⟨m__law_one_of, (ds_one (ds_ret (de_ix ix_d (de_var (i := 1) rfl (vis_by rfl)) (de_fn H__law_take rfl hr (by decide) rfl tk (da_cons (de_var (i := 0) rfl (vis_by rfl)) (da_cons (de_callB cd_len rfl n_len bt_len (da_cons (de_var (i := 1) rfl (vis_by rfl)) da_nil)) da_nil))) fun _ _ => rfl))), ok__law_one_of⟩

theorem sc__law_any_machine : FnScope N__law_any_machine ["pen", "many"] (defScope s__law_any_machine) := ⟨rfl, rfl, rfl, by decide +kernel, rfl, by decide +kernel, by decide +kernel⟩
theorem w__law_any_machine {P : Program} {w : World} {K : PySem.W.Frag} {mg : Str → Option Value} {base : Heap} {T : Tb} (H__law_take : Has P w K mg base T 2 "_law_take" ["pen", "many"] sp__law_take) (H__law_one_of : Has P w K mg base T 3 "_law_one_of" ["pen", "some"] sp__law_one_of) (n_range : mg "range" = none) (n_int : mg "int" = none) (n_len : mg "len" = none) (n_list : mg "list" = none) (n_tuple : mg "tuple" = none) {f : Addr} {fd : FuncData} (F : FunD K "_law_any_machine" "_law_any_machine" (defArgs s__law_any_machine) (defBody s__law_any_machine) (defScope s__law_any_machine) [] [] f fd) :
    FnOk P w K mg base (L2.CX P w) 4 f fd ["pen", "many"] (lift ⟨K, w, T⟩ 2 sp__law_any_machine) :=
  fnD F sc__law_any_machine fun cdv A outer s H E hr tk hp => by
    have hu := hu_of hr
    have nd := sc__law_any_machine.nd
    exact ⟨m__law_any_machine, (ds_cons (ds_set (i := 2) nd rfl (loc_by rfl) (de_fn H__law_take rfl hr (by decide) rfl tk (da_cons (de_var (i := 0) rfl (vis_by rfl)) (da_cons de_int da_nil)))) (ds_cons (ds_set (i := 3) nd rfl (loc_by rfl) (de_slice (de_str (z := [97, 98, 99, 100, 101, 102, 103, 104, 105, 106, 107, 108, 109, 110, 111, 112, 113, 114, 115, 116, 117, 118, 119, 120, 121, 122])) (do_some (de_var (i := 2) rfl (vis_by rfl))) (do_some (de_bin or_add (de_bin or_add (de_var (i := 2) rfl (vis_by rfl)) de_int) (de_fn H__law_take rfl hr (by decide) rfl tk (da_cons (de_var (i := 0) rfl (vis_by rfl)) (da_cons de_int da_nil))))))) (ds_cons (ds_set (i := 4) nd rfl (loc_by rfl) (de_fn H__law_one_of rfl hr (by decide) rfl tk (da_cons (de_var (i := 0) rfl (vis_by rfl)) (da_cons (de_lst (da_cons (de_str (z := [97])) (da_cons (de_str (z := [97, 98])) (da_cons (de_str (z := [97, 98])) (da_cons (de_str (z := [98, 122])) (da_cons (de_str (z := [97, 98, 99])) (da_cons (de_var (i := 3) rfl (vis_by rfl)) da_nil))))))) da_nil)))) (ds_cons (ds_asg (de_tup (da_cons (de_bin or_add de_int (de_fn H__law_take rfl hr (by decide) rfl tk (da_cons (de_var (i := 0) rfl (vis_by rfl)) (da_cons (de_var (i := 1) rfl (vis_by rfl)) da_nil)))) (da_cons (de_fn H__law_take rfl hr (by decide) rfl tk (da_cons (de_var (i := 0) rfl (vis_by rfl)) (da_cons de_int da_nil))) da_nil))) (dg_tup rfl (dgs_cons (dg_name (i := 5) nd rfl (loc_by rfl)) (dgs_cons (dg_name (i := 6) nd rfl (loc_by rfl)) dgs_nil)))) (ds_cons (ds_if (dt_cmp (or_eq (hu_64 hu)) (de_var (i := 6) rfl (vis_by rfl)) de_int) (ds_cons (ds_setLc (i := 7) (own := [("k", 10)]) rfl nd rfl rfl rfl (di_rng1 rfl n_range (da_cons (de_var (i := 5) rfl (vis_by rfl)) da_nil)) (blkOk_by rfl) (by decide) (fun _ _ _ _ _ => (pg_name (i := 10) nd rfl (loc_by rfl))) (fun _ _ _ _ _ => dts_nil) (fun _ _ _ _ _ => (de_lc (own := [("letter", 11)]) rfl nd (di_seq (de_var (i := 4) rfl (vis_by rfl))) (blkOk_by rfl) (by decide) (fun _ _ _ _ _ => (pg_name (i := 11) nd rfl (loc_by rfl))) (fun _ _ _ _ _ => dts_nil) (fun _ _ _ _ _ => (de_if (dt_cmp (or_eq (hu_64 hu)) (de_var (i := 11) rfl (vis_by rfl)) (de_ix ix_d (de_var (i := 4) rfl (vis_by rfl)) (de_neg de_int) fun _ _ => rfl)) (de_bin or_mod (de_bin or_add (de_callTy cd_int rfl n_int bt_int (da_cons (de_var (i := 10) rfl (vis_by rfl)) da_nil)) de_int) (de_var (i := 5) rfl (vis_by rfl))) de_non))))) (ds_cons (ds_for hp rfl (di_rng1 rfl n_range (da_cons (de_fn H__law_take rfl hr (by decide) rfl tk (da_cons (de_var (i := 0) rfl (vis_by rfl)) (da_cons de_int da_nil))) da_nil)) (dg_name (i := 8) nd rfl (loc_by rfl)) (ds_one (ds_setI set_l (de_ix ix_d (de_var (i := 7) rfl (vis_by rfl)) (de_fn H__law_take rfl hr (by decide) rfl tk (da_cons (de_var (i := 0) rfl (vis_by rfl)) (da_cons (de_var (i := 5) rfl (vis_by rfl)) da_nil))) fun _ _ => rfl) (de_fn H__law_take rfl hr (by decide) rfl tk (da_cons (de_var (i := 0) rfl (vis_by rfl)) (da_cons (de_callB cd_len rfl n_len bt_len (da_cons (de_var (i := 4) rfl (vis_by rfl)) da_nil)) da_nil))) (de_fn H__law_take rfl hr (by decide) rfl tk (da_cons (de_var (i := 0) rfl (vis_by rfl)) (da_cons (de_var (i := 5) rfl (vis_by rfl)) da_nil)))))) (ds_one (ds_set (i := 9) nd rfl (loc_by rfl) (de_lst (da_cons de_int da_nil)))))) (ds_cons (ds_set (i := 7) nd rfl (loc_by rfl) (de_lst da_nil)) (ds_cons (ds_for hp rfl (di_rng1 rfl n_range (da_cons (de_var (i := 5) rfl (vis_by rfl)) da_nil)) (dg_name (i := 10) nd rfl (loc_by rfl)) (ds_one (ds_expr (de_mt PySem.F.plainAttrs_list PySem.F.slot_list_append PySem.F.type_list_append md_append (de_var (i := 7) rfl (vis_by rfl)) (da_cons (de_lc (own := [("letter", 11)]) rfl nd (di_seq (de_var (i := 4) rfl (vis_by rfl))) (blkOk_by rfl) (by decide) (fun _ _ _ _ _ => (pg_name (i := 11) nd rfl (loc_by rfl))) (fun _ _ _ _ _ => dts_nil) (fun _ _ _ _ _ => (de_fn H__law_one_of rfl hr (by decide) rfl takesF (da_cons (de_var (i := 0) rfl (vis_by rfl)) (da_cons (de_bin or_add (de_bin or_mul (de_lst (da_cons de_non da_nil)) (de_var (i := 6) rfl (vis_by rfl))) (de_listRng rfl rfl n_list rfl n_range (da_cons (de_var (i := 5) rfl (vis_by rfl)) da_nil))) da_nil))))) da_nil))))) (ds_one (ds_setLc (i := 9) (own := [("k", 10)]) rfl nd rfl rfl rfl (di_rng1 rfl n_range (da_cons (de_var (i := 5) rfl (vis_by rfl)) da_nil)) (blkOk_by rfl) (by decide) (fun _ _ _ _ _ => (pg_name (i := 10) nd rfl (loc_by rfl))) (fun _ _ _ _ _ => (dts_one (dt_cmp (or_eq (hu_64 hu)) (de_fn H__law_take rfl hr (by decide) rfl takesF (da_cons (de_var (i := 0) rfl (vis_by rfl)) (da_cons de_int da_nil))) de_int))) (fun _ _ _ _ _ => (de_var (i := 10) rfl (vis_by rfl)))))))) (ds_one (ds_ret (de_tup (da_cons (de_var (i := 4) rfl (vis_by rfl)) (da_cons (de_callTy cd_tup rfl n_tuple bt_tuple (da_cons (de_lc (own := [("row", 12)]) rfl nd (di_seq (de_var (i := 7) rfl (vis_by rfl))) (blkOk_by rfl) (by decide) (fun _ _ _ _ _ => (pg_name (i := 12) nd rfl (loc_by rfl))) (fun _ _ _ _ _ => dts_nil) (fun _ _ _ _ _ => (de_callTy cd_tup rfl n_tuple bt_tuple (da_cons (de_var (i := 12) rfl (vis_by rfl)) da_nil)))) da_nil)) (da_cons (de_callTy cd_tup rfl n_tuple bt_tuple (da_cons (de_var (i := 9) rfl (vis_by rfl)) da_nil)) da_nil))))))))))), ok__law_any_machine⟩

theorem sc__law_run : FnScope N__law_run ["machine", "state", "word"] (defScope s__law_run) := ⟨rfl, rfl, rfl, by decide +kernel, rfl, by decide +kernel, by decide +kernel⟩
theorem w__law_run {P : Program} {w : World} {K : PySem.W.Frag} {mg : Str → Option Value} {base : Heap} {T : Tb}  {f : Addr} {fd : FuncData} (F : FunD K "_law_run" "_law_run" (defArgs s__law_run) (defBody s__law_run) (defScope s__law_run) [] [] f fd) :
    FnOk P w K mg base (L2.CX P w) 1 f fd ["machine", "state", "word"] (lift ⟨K, w, T⟩ 3 sp__law_run) :=
  fnD F sc__law_run fun cdv A outer s H E hr tk hp => by
    have hu := hu_of hr
    have nd := sc__law_run.nd
    exact ⟨m__law_run, (ds_cons (ds_for hp rfl (di_seq (de_var (i := 2) rfl (vis_by rfl))) (dg_name (i := 3) nd rfl (loc_by rfl)) (ds_one (ds_set (i := 1) nd rfl (loc_by rfl) (de_if (dt_cmp or_isN (de_var (i := 1) rfl (vis_by rfl)) de_non) de_non (de_ix ix_d (de_ix ix_d (de_ix ix_d (de_var (i := 0) rfl (vis_by rfl)) de_int fun _ _ => rfl) (de_var (i := 1) rfl (vis_by rfl)) fun _ _ => rfl) (de_mt PySem.F.plainAttrs_str PySem.F.slot_str_index PySem.F.type_str_index md_index (de_ix ix_d (de_var (i := 0) rfl (vis_by rfl)) de_int fun _ _ => rfl) (da_cons (de_var (i := 3) rfl (vis_by rfl)) da_nil)) fun _ _ => rfl))))) (ds_one (ds_ret (de_var (i := 1) rfl (vis_by rfl))))), ok__law_run⟩

theorem sc__law_has : FnScope N__law_has ["machine", "word"] (defScope s__law_has) := ⟨rfl, rfl, rfl, by decide +kernel, rfl, by decide +kernel, by decide +kernel⟩
theorem w__law_has {P : Program} {w : World} {K : PySem.W.Frag} {mg : Str → Option Value} {base : Heap} {T : Tb} (H__law_run : Has P w K mg base T 1 "_law_run" ["machine", "state", "word"] sp__law_run) {f : Addr} {fd : FuncData} (F : FunD K "_law_has" "_law_has" (defArgs s__law_has) (defBody s__law_has) (defScope s__law_has) [] [] f fd) :
    FnOk P w K mg base (L2.CX P w) 2 f fd ["machine", "word"] (lift ⟨K, w, T⟩ 2 sp__law_has) :=
  fnD F sc__law_has fun cdv A outer s H E hr tk hp => by
    have hu := hu_of hr
    have nd := sc__law_has.nd
    exact ⟨m__law_has, (ds_one (ds_ret (de_cmp (or_in hu) (de_fn H__law_run rfl hr (by decide) rfl tk (da_cons (de_var (i := 0) rfl (vis_by rfl)) (da_cons de_int (da_cons (de_var (i := 1) rfl (vis_by rfl)) da_nil)))) (de_ix ix_d (de_var (i := 0) rfl (vis_by rfl)) de_int fun _ _ => rfl)))), ok__law_has⟩

theorem sc__law_firsts : FnScope N__law_firsts ["machine", "many"] (defScope s__law_firsts) := ⟨rfl, rfl, rfl, by decide +kernel, rfl, by decide +kernel, by decide +kernel⟩
theorem w__law_firsts {P : Program} {w : World} {K : PySem.W.Frag} {mg : Str → Option Value} {base : Heap} {T : Tb} (n_dict : mg "dict" = none) (n_range : mg "range" = none) (n_enumerate : mg "enumerate" = none) (n_len : mg "len" = none) (H__law_run : Has P w K mg base T 1 "_law_run" ["machine", "state", "word"] sp__law_run) {f : Addr} {fd : FuncData} (F : FunD K "_law_firsts" "_law_firsts" (defArgs s__law_firsts) (defBody s__law_firsts) (defScope s__law_firsts) [] [] f fd) :
    FnOk P w K mg base (L2.CX P w) 2 f fd ["machine", "many"] (lift ⟨K, w, T⟩ 2 sp__law_firsts) :=
  fnD F sc__law_firsts fun cdv A outer s H E hr tk hp => by
    have hu := hu_of hr
    have nd := sc__law_firsts.nd
    exact ⟨m__law_firsts, (ds_cons (ds_set (i := 2) nd rfl (loc_by rfl) (de_callTy (cd_dict rfl) rfl n_dict bt_dict (da_cons (de_lc (own := [("end", 12)]) rfl nd (di_seq (de_ix ix_d (de_var (i := 0) rfl (vis_by rfl)) de_int fun _ _ => rfl)) (blkOk_by rfl) (by decide) (fun _ _ _ _ _ => (pg_name (i := 12) nd rfl (loc_by rfl))) (fun _ _ _ _ _ => dts_nil) (fun _ _ _ _ _ => (de_tup (da_cons (de_var (i := 12) rfl (vis_by rfl)) (da_cons de_bl da_nil))))) da_nil))) (ds_cons (ds_for hp rfl (di_rng1 rfl n_range (da_cons de_int da_nil)) (dg_name (i := 3) nd rfl (loc_by rfl)) (ds_one (ds_for hp rfl (di_enum rfl n_enumerate (da_cons (de_ix ix_d (de_var (i := 0) rfl (vis_by rfl)) de_int fun _ _ => rfl) da_nil)) (dg_tup rfl (dgs_cons (dg_name (i := 7) nd rfl (loc_by rfl)) (dgs_cons (dg_name (i := 8) nd rfl (loc_by rfl)) dgs_nil))) (ds_one (ds_if (dt_cmp (or_ne (hu_64 hu)) (de_lc (own := [("after", 14)]) rfl nd (di_seq (de_var (i := 8) rfl (vis_by rfl))) (blkOk_by rfl) (by decide) (fun _ _ _ _ _ => (pg_name (i := 14) nd rfl (loc_by rfl))) (fun _ _ _ _ _ => (dts_one (dt_cmp (or_in hu) (de_var (i := 14) rfl (vis_by rfl)) (de_var (i := 2) rfl (vis_by rfl))))) (fun _ _ _ _ _ => de_int)) (de_lst da_nil)) (ds_one (ds_setI (set_k (hu_1 hu)) (de_var (i := 2) rfl (vis_by rfl)) (de_var (i := 7) rfl (vis_by rfl)) de_bl)) ds_nil))))) (ds_cons (ds_par (i := 4) (j := 5) rfl nd rfl rfl (by decide) rfl rfl (da_cons (de_if (dt_cmp (or_in hu) de_int (de_var (i := 2) rfl (vis_by rfl))) (de_lst (da_cons (de_tup (da_cons (de_str (z := [])) (da_cons de_int da_nil))) da_nil)) (de_lst da_nil)) (da_cons (de_lst da_nil) da_nil)) rfl) (ds_cons (ds_while hp (DW.t (dw_and (dt_cmp (or_ne (hu_64 hu)) (de_var (i := 4) rfl (vis_by rfl)) (de_lst da_nil)) (dw_and1 (dt_cmp or_lt (de_callB cd_len rfl n_len bt_len (da_cons (de_var (i := 5) rfl (vis_by rfl)) da_nil)) (de_var (i := 1) rfl (vis_by rfl)))))) (ds_cons (ds_set (i := 5) nd rfl (loc_by rfl) (de_bin or_add (de_var (i := 5) rfl (vis_by rfl)) (de_lc (own := [("word", 9), ("state", 10)]) rfl nd (di_seq (de_var (i := 4) rfl (vis_by rfl))) (blkOk_by rfl) (by decide) (fun _ _ _ _ _ => (pg_tup rfl (pgs_cons (pg_name (i := 9) nd rfl (loc_by rfl)) (pgs_cons (pg_name (i := 10) nd rfl (loc_by rfl)) pgs_nil)))) (fun _ _ _ _ _ => (dts_one (dt_cmp (or_in hu) (de_var (i := 10) rfl (vis_by rfl)) (de_ix ix_d (de_var (i := 0) rfl (vis_by rfl)) de_int fun _ _ => rfl)))) (fun _ _ _ _ _ => (de_var (i := 9) rfl (vis_by rfl)))))) (ds_cons (ds_set (i := 6) nd rfl (loc_by rfl) (de_lst da_nil)) (ds_cons (ds_for hp rfl (di_seq (de_var (i := 4) rfl (vis_by rfl))) (dg_tup rfl (dgs_cons (dg_name (i := 9) nd rfl (loc_by rfl)) (dgs_cons (dg_name (i := 10) nd rfl (loc_by rfl)) dgs_nil))) (ds_cons (ds_setLc (i := 11) (own := [("c", 13)]) rfl nd rfl rfl rfl (di_seq (de_ix ix_d (de_var (i := 0) rfl (vis_by rfl)) de_int fun _ _ => rfl)) (blkOk_by rfl) (by decide) (fun _ _ _ _ _ => (pg_name (i := 13) nd rfl (loc_by rfl))) (fun _ _ _ _ _ => dts_nil) (fun _ _ _ _ _ => (de_tup (da_cons (de_bin or_add (de_var (i := 9) rfl (vis_by rfl)) (de_var (i := 13) rfl (vis_by rfl))) (da_cons (de_fn H__law_run rfl hr (by decide) rfl takesF (da_cons (de_var (i := 0) rfl (vis_by rfl)) (da_cons (de_var (i := 10) rfl (vis_by rfl)) (da_cons (de_var (i := 13) rfl (vis_by rfl)) da_nil)))) da_nil))))) (ds_one (ds_expr (de_mt PySem.F.plainAttrs_list PySem.F.slot_list_extend PySem.F.type_list_extend md_extend (de_var (i := 6) rfl (vis_by rfl)) (da_cons (de_lc (own := [("step", 15)]) rfl nd (di_seq (de_var (i := 11) rfl (vis_by rfl))) (blkOk_by rfl) (by decide) (fun _ _ _ _ _ => (pg_name (i := 15) nd rfl (loc_by rfl))) (fun _ _ _ _ _ => (dts_one (dt_cmp (or_in hu) (de_ix ix_d (de_var (i := 15) rfl (vis_by rfl)) de_int fun _ _ => rfl) (de_var (i := 2) rfl (vis_by rfl))))) (fun _ _ _ _ _ => (de_var (i := 15) rfl (vis_by rfl)))) da_nil)))))) (ds_one (ds_set (i := 4) nd rfl (loc_by rfl) (de_var (i := 6) rfl (vis_by rfl)))))))) (ds_one (ds_ret (de_slice (de_var (i := 5) rfl (vis_by rfl)) do_none (do_some (de_var (i := 1) rfl (vis_by rfl)))))))))), ok__law_firsts⟩

theorem sc__law_any_path : FnScope N__law_any_path ["pen", "machine", "many"] (defScope s__law_any_path) := ⟨rfl, rfl, rfl, by decide +kernel, rfl, by decide +kernel, by decide +kernel⟩
theorem w__law_any_path {P : Program} {w : World} {K : PySem.W.Frag} {mg : Str → Option Value} {base : Heap} {T : Tb} (n_range : mg "range" = none) (H__law_run : Has P w K mg base T 1 "_law_run" ["machine", "state", "word"] sp__law_run) (H__law_one_of : Has P w K mg base T 3 "_law_one_of" ["pen", "some"] sp__law_one_of) {f : Addr} {fd : FuncData} (F : FunD K "_law_any_path" "_law_any_path" (defArgs s__law_any_path) (defBody s__law_any_path) (defScope s__law_any_path) [] [] f fd) :
    FnOk P w K mg base (L2.CX P w) 4 f fd ["pen", "machine", "many"] (lift ⟨K, w, T⟩ 3 sp__law_any_path) :=
  fnD F sc__law_any_path fun cdv A outer s H E hr tk hp => by
    have hu := hu_of hr
    have nd := sc__law_any_path.nd
    exact ⟨m__law_any_path, (ds_cons (ds_asg (de_tup (da_cons (de_str (z := [])) (da_cons de_int da_nil))) (dg_tup rfl (dgs_cons (dg_name (i := 4) nd rfl (loc_by rfl)) (dgs_cons (dg_name (i := 5) nd rfl (loc_by rfl)) dgs_nil)))) (ds_cons (ds_for hp rfl (di_rng1 rfl n_range (da_cons (de_var (i := 2) rfl (vis_by rfl)) da_nil)) (dg_name (i := 3) nd rfl (loc_by rfl)) (ds_cons (ds_setLc (i := 6) (own := [("c", 7)]) rfl nd rfl rfl rfl (di_seq (de_ix ix_d (de_var (i := 1) rfl (vis_by rfl)) de_int fun _ _ => rfl)) (blkOk_by rfl) (by decide) (fun _ _ _ _ _ => (pg_name (i := 7) nd rfl (loc_by rfl))) (fun _ _ _ _ _ => (dts_one (dt_cmp or_notN (de_fn H__law_run rfl hr (by decide) rfl takesF (da_cons (de_var (i := 1) rfl (vis_by rfl)) (da_cons (de_var (i := 5) rfl (vis_by rfl)) (da_cons (de_var (i := 7) rfl (vis_by rfl)) da_nil)))) de_non))) (fun _ _ _ _ _ => (de_var (i := 7) rfl (vis_by rfl)))) (ds_cons (ds_if (dt_cmp (or_eq (hu_64 hu)) (de_var (i := 6) rfl (vis_by rfl)) (de_lst da_nil)) (ds_one (ds_ret (de_var (i := 4) rfl (vis_by rfl)))) ds_nil) (ds_cons (ds_set (i := 7) nd rfl (loc_by rfl) (de_fn H__law_one_of rfl hr (by decide) rfl tk (da_cons (de_var (i := 0) rfl (vis_by rfl)) (da_cons (de_var (i := 6) rfl (vis_by rfl)) da_nil)))) (ds_one (ds_asg (de_tup (da_cons (de_bin or_add (de_var (i := 4) rfl (vis_by rfl)) (de_var (i := 7) rfl (vis_by rfl))) (da_cons (de_fn H__law_run rfl hr (by decide) rfl tk (da_cons (de_var (i := 1) rfl (vis_by rfl)) (da_cons (de_var (i := 5) rfl (vis_by rfl)) (da_cons (de_var (i := 7) rfl (vis_by rfl)) da_nil)))) da_nil))) (dg_tup rfl (dgs_cons (dg_name (i := 4) nd rfl (loc_by rfl)) (dgs_cons (dg_name (i := 5) nd rfl (loc_by rfl)) dgs_nil))))))))) (ds_one (ds_ret (de_var (i := 4) rfl (vis_by rfl)))))), ok__law_any_path⟩

theorem sc_law : FnScope N_law ["script"] (defScope s_law) := ⟨rfl, rfl, rfl, by decide +kernel, rfl, by decide +kernel, by decide +kernel⟩
theorem w_law {P : Program} {w : World} {K : PySem.W.Frag} {mg : Str → Option Value} {base : Heap} {T : Tb} (H__law_open : Has P w K mg base T 1 "_law_open" ["script"] sp__law_open) (n_range : mg "range" = none) (H__law_any_machine : Has P w K mg base T 4 "_law_any_machine" ["pen", "many"] sp__law_any_machine) (n_len : mg "len" = none) (n_repr : mg "repr" = none) (H__law_any_path : Has P w K mg base T 4 "_law_any_path" ["pen", "machine", "many"] sp__law_any_path) (H__law_take : Has P w K mg base T 2 "_law_take" ["pen", "many"] sp__law_take) (H__law_one_of : Has P w K mg base T 3 "_law_one_of" ["pen", "some"] sp__law_one_of) (H_has_word : Has P w K mg base T 5 "has_word" ["machine", "word"] sp_has_word) (H__law_has : Has P w K mg base T 2 "_law_has" ["machine", "word"] sp__law_has) (H__law_firsts : Has P w K mg base T 2 "_law_firsts" ["machine", "many"] sp__law_firsts) (H_first_words : Has P w K mg base T 5 "first_words" ["machine", "many"] sp_first_words) (L__law_word : HasCat K mg T "_law_word" [(.word, [119, 111, 114, 100]), (.count, [99, 111, 117, 110, 116]), (.tear, [111, 100, 100])] [110, 111, 110, 101]) (n_enumerate : mg "enumerate" = none) (n_tuple : mg "tuple" = none) (xk : ExcK K T [.tear, .machine, .word, .count]) (TB : LamX.TabB base mg (He.cT K ("law", none)).1 (He.cT K ("law", none)).2) (hmT : ((He.cT K ("law", none)).2, lamQ "law") ∈ T.tabs) (huT : ∀ p ∈ T.tabs, p.1 = (He.cT K ("law", none)).2 → p.2 = lamQ "law") {fd : FuncData} (F : FunD K "law" "law" (defArgs s_law) (defBody s_law) (defScope s_law) [] [] (He.fAd K ("law", none)) fd) :
    FnG P w K mg base (L2.CX P w) 8 (He.fAd K ("law", none)) fd ["script"] (lift ⟨K, w, T⟩ 1 sp_law) :=
  fnG F sc_law fun A outer s H E hr gd tk hp => by
    have hu := hu_of hr
    have nd := sc_law.nd
    exact ⟨m_law, (ds_cons (ds_set (i := 1) nd rfl (loc_by rfl) (de_fn H__law_open rfl hr (by decide) rfl tk (da_cons (de_var (i := 0) rfl (vis_by rfl)) da_nil))) (ds_cons (ds_for hp rfl (di_rng1 rfl n_range (da_cons de_int da_nil)) (dg_name (i := 2) nd rfl (loc_by rfl)) (ds_cons (ds_set (i := 4) nd rfl (loc_by rfl) (de_fn H__law_any_machine rfl hr (by decide) rfl tk (da_cons (de_var (i := 1) rfl (vis_by rfl)) (da_cons de_int da_nil)))) (ds_cons (ds_set (i := 4) nd rfl (loc_by rfl) (de_if (dt_cmp or_lt (de_callB cd_len rfl n_len bt_len (da_cons (de_ix ix_d (de_var (i := 4) rfl (vis_by rfl)) de_int fun _ _ => rfl) da_nil)) de_int) (de_var (i := 4) rfl (vis_by rfl)) (de_fn H__law_any_machine rfl hr (by decide) rfl tk (da_cons (de_var (i := 1) rfl (vis_by rfl)) (da_cons de_int da_nil))))) (ds_cons (ds_asg (de_tup (da_cons (de_callB (cd_repr gd hu) rfl n_repr bt_repr (da_cons (de_var (i := 4) rfl (vis_by rfl)) da_nil)) (da_cons (de_ix ix_d (de_var (i := 4) rfl (vis_by rfl)) de_int fun _ _ => rfl) da_nil))) (dg_tup rfl (dgs_cons (dg_name (i := 13) nd rfl (loc_by rfl)) (dgs_cons (dg_name (i := 14) nd rfl (loc_by rfl)) dgs_nil)))) (ds_cons (ds_set (i := 5) nd rfl (loc_by rfl) (de_fn H__law_any_path rfl hr (by decide) rfl tk (da_cons (de_var (i := 1) rfl (vis_by rfl)) (da_cons (de_var (i := 4) rfl (vis_by rfl)) (da_cons de_int da_nil))))) (ds_cons (ds_set (i := 6) nd rfl (loc_by rfl) (de_lst (da_cons (de_str (z := [])) (da_cons (de_var (i := 5) rfl (vis_by rfl)) (da_cons (de_slice (de_var (i := 5) rfl (vis_by rfl)) do_none (do_some de_int)) (da_cons (de_bin or_add (de_var (i := 5) rfl (vis_by rfl)) (de_ix ix_d (de_var (i := 14) rfl (vis_by rfl)) de_int fun _ _ => rfl)) (da_cons (de_fn H__law_any_path rfl hr (by decide) rfl tk (da_cons (de_var (i := 1) rfl (vis_by rfl)) (da_cons (de_var (i := 4) rfl (vis_by rfl)) (da_cons de_int da_nil)))) da_nil))))))) (ds_cons (ds_for hp rfl (di_rng1 rfl n_range (da_cons de_int da_nil)) (dg_name (i := 7) nd rfl (loc_by rfl)) (ds_one (ds_expr (de_mt PySem.F.plainAttrs_list PySem.F.slot_list_append PySem.F.type_list_append md_append (de_var (i := 6) rfl (vis_by rfl)) (da_cons (de_mt PySem.F.plainAttrs_str PySem.F.slot_str_join PySem.F.type_str_join md_join (de_str (z := [])) (da_cons (de_lc (own := [("more", 21)]) rfl nd (di_rng1 rfl n_range (da_cons (de_fn H__law_take rfl hr (by decide) rfl tk (da_cons (de_var (i := 1) rfl (vis_by rfl)) (da_cons de_int da_nil))) da_nil)) (blkOk_by rfl) (by decide) (fun _ _ _ _ _ => (pg_name (i := 21) nd rfl (loc_by rfl))) (fun _ _ _ _ _ => dts_nil) (fun _ _ _ _ _ => (de_fn H__law_one_of rfl hr (by decide) rfl takesF (da_cons (de_var (i := 1) rfl (vis_by rfl)) (da_cons (de_var (i := 14) rfl (vis_by rfl)) da_nil))))) da_nil)) da_nil))))) (ds_cons (ds_for hp rfl (di_seq (de_var (i := 6) rfl (vis_by rfl))) (dg_name (i := 8) nd rfl (loc_by rfl)) (ds_one (ds_if (DW.t (dw_and (dt_cmp or_le (de_callB cd_len rfl n_len bt_len (da_cons (de_var (i := 8) rfl (vis_by rfl)) da_nil)) de_int) (dw_and1 (dt_cmp (or_ne (hu_64 hu)) (de_callB (cd_repr gd hu) rfl n_repr bt_repr (da_cons (de_fn H_has_word rfl hr (by decide) rfl tk (da_cons (de_var (i := 4) rfl (vis_by rfl)) (da_cons (de_var (i := 8) rfl (vis_by rfl)) da_nil))) da_nil)) (de_callB (cd_repr gd hu) rfl n_repr bt_repr (da_cons (de_fn H__law_has rfl hr (by decide) rfl tk (da_cons (de_var (i := 4) rfl (vis_by rfl)) (da_cons (de_var (i := 8) rfl (vis_by rfl)) da_nil))) da_nil)))))) (ds_one (ds_ret de_bl)) ds_nil))) (ds_cons (ds_for hp rfl (di_seq (de_lst (da_cons de_int (da_cons de_int (da_cons de_int (da_cons (de_fn H__law_take rfl hr (by decide) rfl tk (da_cons (de_var (i := 1) rfl (vis_by rfl)) (da_cons de_int da_nil))) da_nil)))))) (dg_name (i := 9) nd rfl (loc_by rfl)) (ds_cons (ds_set (i := 15) nd rfl (loc_by rfl) (de_fn H__law_firsts rfl hr (by decide) rfl tk (da_cons (de_var (i := 4) rfl (vis_by rfl)) (da_cons (de_var (i := 9) rfl (vis_by rfl)) da_nil)))) (ds_one (ds_for hp rfl (di_rng1 rfl n_range (da_cons de_int da_nil)) (dg_name (i := 7) nd rfl (loc_by rfl)) (ds_cons (ds_set (i := 16) nd rfl (loc_by rfl) (de_fn H_first_words rfl hr (by decide) rfl tk (da_cons (de_var (i := 4) rfl (vis_by rfl)) (da_cons (de_var (i := 9) rfl (vis_by rfl)) da_nil)))) (ds_cons (ds_if (dt_cmp (or_ne (hu_64 hu)) (de_callB (cd_repr gd hu) rfl n_repr bt_repr (da_cons (de_var (i := 16) rfl (vis_by rfl)) da_nil)) (de_callB (cd_repr gd hu) rfl n_repr bt_repr (da_cons (de_var (i := 15) rfl (vis_by rfl)) da_nil))) (ds_one (ds_ret de_bl)) ds_nil) (ds_one (ds_expr (de_mt PySem.F.plainAttrs_list PySem.F.slot_list_append PySem.F.type_list_append md_append (de_var (i := 16) rfl (vis_by rfl)) (da_cons de_non da_nil)))))))))) (ds_cons (ds_set (i := 10) nd rfl (loc_by rfl) (de_ix ix_d (de_lc (own := [("sign", 19)]) rfl nd (di_seq (de_str (z := [97, 98, 99, 100, 120, 121, 122]))) (blkOk_by rfl) (by decide) (fun _ _ _ _ _ => (pg_name (i := 19) nd rfl (loc_by rfl))) (fun _ _ _ _ _ => (dts_one (dt_cmp (or_notIn hu) (de_var (i := 19) rfl (vis_by rfl)) (de_var (i := 14) rfl (vis_by rfl))))) (fun _ _ _ _ _ => (de_var (i := 19) rfl (vis_by rfl)))) de_int fun _ _ => rfl)) (ds_cons (ds_set (i := 11) nd rfl (loc_by rfl) (de_lst (da_cons de_non (da_cons de_int (da_cons (de_bin or_mul (de_ix ix_d (de_var (i := 14) rfl (vis_by rfl)) de_int fun _ _ => rfl) de_int) (da_cons (de_var (i := 10) rfl (vis_by rfl)) (da_cons (de_bin or_add (de_ix ix_d (de_var (i := 14) rfl (vis_by rfl)) de_int fun _ _ => rfl) (de_var (i := 10) rfl (vis_by rfl))) (da_cons (de_lst da_nil) (da_cons (de_tup (da_cons (de_ix ix_d (de_var (i := 14) rfl (vis_by rfl)) de_int fun _ _ => rfl) da_nil)) (da_cons (de_str (z := [63])) (da_cons (de_str (z := [32])) (da_cons de_dnew da_nil)))))))))))) (ds_cons (ds_for hp rfl (di_seq (de_bin or_add (de_var (i := 11) rfl (vis_by rfl)) (de_lst (da_cons (de_mt0 PySem.F.plainAttrs_str PySem.F.slot_str_upper PySem.F.type_str_upper md_upper (de_ix ix_d (de_var (i := 14) rfl (vis_by rfl)) de_int fun _ _ => rfl)) da_nil)))) (dg_name (i := 12) nd rfl (loc_by rfl)) (ds_one (ds_if (dt_cmp (or_ne (hu_64 hu)) (de_lam (k := 5) L__law_word xk (by decide) rfl TB rfl hmT huT hr (by decide) (LamX.lamS_by rfl) rfl (fun _ _ _ _ _ => rfl) fun A2 outer2 s2 H2 E2 f2 c2 hr => by
      have hu := hu_of hr
      exact (de_fn H_has_word rfl hr (by decide) rfl (takes_of rfl rfl rfl rfl) (da_cons (de_var (i := 4) rfl (vis_by rfl)) (da_cons (de_var (i := 12) rfl (vis_by rfl)) da_nil)))) (de_str (z := [119, 111, 114, 100]))) (ds_one (ds_ret de_bl)) ds_nil))) (ds_cons (ds_for hp rfl (di_seq (de_lst (da_cons de_non (da_cons (de_neg de_int) (da_cons de_int (da_cons de_bl (da_cons de_bl (da_cons (de_str (z := [49])) (da_cons (de_tup (da_cons de_int da_nil)) da_nil))))))))) (dg_name (i := 12) nd rfl (loc_by rfl)) (ds_one (ds_if (dt_cmp (or_ne (hu_64 hu)) (de_lam (k := 5) L__law_word xk (by decide) rfl TB rfl hmT huT hr (by decide) (LamX.lamS_by rfl) rfl (fun _ _ _ _ _ => rfl) fun A2 outer2 s2 H2 E2 f2 c2 hr => by
      have hu := hu_of hr
      exact (de_fn H_first_words rfl hr (by decide) rfl (takes_of rfl rfl rfl rfl) (da_cons (de_var (i := 4) rfl (vis_by rfl)) (da_cons (de_var (i := 12) rfl (vis_by rfl)) da_nil)))) (de_str (z := [99, 111, 117, 110, 116]))) (ds_one (ds_ret de_bl)) ds_nil))) (ds_one (ds_if (dt_cmp (or_ne (hu_64 hu)) (de_callB (cd_repr gd hu) rfl n_repr bt_repr (da_cons (de_var (i := 4) rfl (vis_by rfl)) da_nil)) (de_var (i := 13) rfl (vis_by rfl))) (ds_one (ds_ret de_bl)) ds_nil))))))))))))))) (ds_cons (ds_setLc (i := 3) (own := [("state", 17), ("at", 18)]) rfl nd rfl rfl rfl (di_enum rfl n_enumerate (da_cons (de_lst (da_cons de_int (da_cons de_int (da_cons de_int (da_cons de_int (da_cons de_int da_nil)))))) da_nil)) (blkOk_by rfl) (by decide) (fun _ _ _ _ _ => (pg_tup rfl (pgs_cons (pg_name (i := 17) nd rfl (loc_by rfl)) (pgs_cons (pg_name (i := 18) nd rfl (loc_by rfl)) pgs_nil)))) (fun _ _ _ _ _ => dts_nil) (fun _ _ _ _ _ => (de_callTy cd_tup rfl n_tuple bt_tuple (da_cons (de_lc (own := [("c", 20)]) rfl nd (di_rng1 rfl n_range (da_cons de_int da_nil)) (blkOk_by rfl) (by decide) (fun _ _ _ _ _ => (pg_name (i := 20) nd rfl (loc_by rfl))) (fun _ _ _ _ _ => dts_nil) (fun _ _ _ _ _ => (de_if (dt_cmp (or_eq (hu_64 hu)) (de_var (i := 20) rfl (vis_by rfl)) (de_var (i := 18) rfl (vis_by rfl))) (de_bin or_add (de_var (i := 17) rfl (vis_by rfl)) de_int) de_non))) da_nil)))) (ds_one (ds_ret (de_cmp (or_eq (hu_64 hu)) (de_fn H_first_words rfl hr (by decide) rfl tk (da_cons (de_tup (da_cons (de_str (z := [97, 98, 99])) (da_cons (de_callTy cd_tup rfl n_tuple bt_tuple (da_cons (de_bin or_add (de_var (i := 3) rfl (vis_by rfl)) (de_lst (da_cons (de_tup (da_cons de_non (da_cons de_non (da_cons de_non da_nil)))) da_nil))) da_nil)) (da_cons (de_tup (da_cons de_int da_nil)) da_nil)))) (da_cons de_int da_nil))) (de_lst (da_cons (de_str (z := [97, 99, 98, 97, 99])) da_nil)))))))), ok_law⟩

end Tw
namespace Tw
open PySem PySem.Spec PyProof.Rows L2 Hk32
theorem law_start {K : PySem.W.Frag} {w : World} {T : Tb} {H : Hp} {a : Addr} {ns : List Int} (hl : ns.length ≤ 63) (tabs : ∀ p ∈ T.tabs, H p.1 = some (.tbl #[])) (r : Rep K H (.scr ns) (.ref a)) : lift ⟨K, w, T⟩ 1 sp_law [.ref a] H (fun v _ => v = .bl true) fun _ _ _ => False := by
  refine ⟨[.scr ns], fun _ => none, fun d _ => d = .bl true, fun _ _ => False, rfl, Reps.cons r Reps.nil, ⟨fun a o e => (by cases e), fun p hp => ⟨#[], tabs p hp, trivial, fun pos cv e => by cases e⟩⟩, ⟨hl, fun _ => rfl⟩, ?_, ?_⟩
  · intro v d H' h' x r rh q
    have q : d = .bl true := q
    subst q
    exact rel_bl r
  · intro C H' h' x rh q
    exact q.elim
end Tw

/-! the join of tearwords_k32_words_of_machines, printed by wip/genjoin.py -/
namespace Tw
open PySem PySem.Spec PyProof.Rows L2 Hk32
theorem facts_Hk32 {w : World} {K : PySem.W.Frag} {mg : Str → Option Value} {hp : Heap} {fl : Addr} (X : K.In hp) (G : hp.Ns mainGlobals mg) (hfa : mg ("law" : Str) = some (.ref fl)) (c : He.SaysX fa fn ts tf ex w hp K) : LawG PySem.Challenge.rw_tearwords_k32_words_of_machines w K 8 63 "script" mg fl hp := by
  obtain ⟨m1, m2⟩ := He.ba c.more
  have efl := hfa.symm.trans (He.glo_ok X G (c.t.d.fact 29 (f := .glo "law") rfl))
  cases efl
  have X_NoCount := hasEx_of (ts := lams) (x := "NoCount") (C := .count) rfl X G (c.t.d.fact 39 (f := .glo "NoCount") rfl) (c.t.d.fact 40 (f := .exc "NoCount") rfl)
  have X_NoMachine := hasEx_of (ts := lams) (x := "NoMachine") (C := .machine) rfl X G (c.t.d.fact 33 (f := .glo "NoMachine") rfl) (c.t.d.fact 34 (f := .exc "NoMachine") rfl)
  have X_NoWord := hasEx_of (ts := lams) (x := "NoWord") (C := .word) rfl X G (c.t.d.fact 36 (f := .glo "NoWord") rfl) (c.t.d.fact 37 (f := .exc "NoWord") rfl)
  have c_MOST_LETTERS := He.int_ok X G (c.t.d.fact 60 (f := .int "MOST_LETTERS" 3) rfl)
  have c_MOST_SIGNS := He.int_ok X G (c.t.d.fact 62 (f := .int "MOST_SIGNS" 200) rfl)
  have c_MOST_STATES := He.int_ok X G (c.t.d.fact 61 (f := .int "MOST_STATES" 6) rfl)
  have c_MOST_WORDS := He.int_ok X G (c.t.d.fact 63 (f := .int "MOST_WORDS" 40) rfl)
  have c_SMALL := He.str_ok X G (c.t.d.fact 59 (f := .str "SMALL" "abcdefghijklmnopqrstuvwxyz") rfl)
  have n_all : mg "all" = none := He.free_ok X G (c.t.d.fact 43 (f := .free "all") rfl)
  have n_any : mg "any" = none := He.free_ok X G (c.t.d.fact 44 (f := .free "any") rfl)
  have n_bool : mg "bool" = none := He.free_ok X G (c.t.d.fact 45 (f := .free "bool") rfl)
  have n_dict : mg "dict" = none := He.free_ok X G (c.t.d.fact 46 (f := .free "dict") rfl)
  have n_enumerate : mg "enumerate" = none := He.free_ok X G (c.t.d.fact 47 (f := .free "enumerate") rfl)
  have n_int : mg "int" = none := He.free_ok X G (c.t.d.fact 48 (f := .free "int") rfl)
  have n_isinstance : mg "isinstance" = none := He.free_ok X G (c.t.d.fact 49 (f := .free "isinstance") rfl)
  have n_len : mg "len" = none := He.free_ok X G (c.t.d.fact 50 (f := .free "len") rfl)
  have n_list : mg "list" = none := He.free_ok X G (c.t.d.fact 51 (f := .free "list") rfl)
  have n_range : mg "range" = none := He.free_ok X G (c.t.d.fact 52 (f := .free "range") rfl)
  have n_repr : mg "repr" = none := He.free_ok X G (c.t.d.fact 53 (f := .free "repr") rfl)
  have n_set : mg "set" = none := He.free_ok X G (c.t.d.fact 54 (f := .free "set") rfl)
  have n_sorted : mg "sorted" = none := He.free_ok X G (c.t.d.fact 55 (f := .free "sorted") rfl)
  have n_str : mg "str" = none := He.free_ok X G (c.t.d.fact 56 (f := .free "str") rfl)
  have n_tuple : mg "tuple" = none := He.free_ok X G (c.t.d.fact 57 (f := .free "tuple") rfl)
  have n_zip : mg "zip" = none := He.free_ok X G (c.t.d.fact 58 (f := .free "zip") rfl)
  obtain ⟨fd_is_within, F_is_within⟩ := c.t.d.def_ 0 (d := d_is_within) rfl
  obtain ⟨fd_are_letters, F_are_letters⟩ := c.t.d.def_ 1 (d := d_are_letters) rfl
  obtain ⟨fd_is_state, F_is_state⟩ := c.t.d.def_ 2 (d := d_is_state) rfl
  obtain ⟨fd_are_ends, F_are_ends⟩ := c.t.d.def_ 3 (d := d_are_ends) rfl
  obtain ⟨fd_is_machine, F_is_machine⟩ := c.t.d.def_ 4 (d := d_is_machine) rfl
  obtain ⟨fd_need_machine, F_need_machine⟩ := c.t.d.def_ 5 (d := d_need_machine) rfl
  obtain ⟨fd_is_made_of, F_is_made_of⟩ := c.t.d.def_ 6 (d := d_is_made_of) rfl
  obtain ⟨fd_is_text, F_is_text⟩ := c.t.d.def_ 7 (d := d_is_text) rfl
  obtain ⟨fd_need_text, F_need_text⟩ := c.t.d.def_ 8 (d := d_need_text) rfl
  obtain ⟨fd_gone_on, F_gone_on⟩ := c.t.d.def_ 9 (d := d_gone_on) rfl
  obtain ⟨fd_raw_has, F_raw_has⟩ := c.t.d.def_ 10 (d := d_raw_has) rfl
  obtain ⟨fd_has_word, F_has_word⟩ := c.t.d.def_ 11 (d := d_has_word) rfl
  obtain ⟨fd_living, F_living⟩ := c.t.d.def_ 12 (d := d_living) rfl
  obtain ⟨fd_nexts, F_nexts⟩ := c.t.d.def_ 13 (d := d_nexts) rfl
  obtain ⟨fd_raw_first, F_raw_first⟩ := c.t.d.def_ 14 (d := d_raw_first) rfl
  obtain ⟨fd_need_many, F_need_many⟩ := c.t.d.def_ 15 (d := d_need_many) rfl
  obtain ⟨fd_first_words, F_first_words⟩ := c.t.d.def_ 16 (d := d_first_words) rfl
  obtain ⟨fd__law_open, F__law_open⟩ := c.t.d.def_ 17 (d := d__law_open) rfl
  obtain ⟨fd__law_spread, F__law_spread⟩ := c.t.d.def_ 18 (d := d__law_spread) rfl
  obtain ⟨fd__law_take, F__law_take⟩ := c.t.d.def_ 19 (d := d__law_take) rfl
  obtain ⟨fd__law_one_of, F__law_one_of⟩ := c.t.d.def_ 20 (d := d__law_one_of) rfl
  obtain ⟨fd__law_any_machine, F__law_any_machine⟩ := c.t.d.def_ 21 (d := d__law_any_machine) rfl
  obtain ⟨fd__law_run, F__law_run⟩ := c.t.d.def_ 22 (d := d__law_run) rfl
  obtain ⟨fd__law_has, F__law_has⟩ := c.t.d.def_ 23 (d := d__law_has) rfl
  obtain ⟨fd__law_word, F__law_word⟩ := c.t.d.def_ 26 (d := d__law_word) rfl
  obtain ⟨fd__law_firsts, F__law_firsts⟩ := c.t.d.def_ 27 (d := d__law_firsts) rfl
  obtain ⟨fd__law_any_path, F__law_any_path⟩ := c.t.d.def_ 28 (d := d__law_any_path) rfl
  obtain ⟨fd_law, F_law⟩ := c.t.d.def_ 29 (d := d_law) rfl
  have sc__law_word : FnScope ["call", "e"] ["call"] (defScope s__law_word) := ⟨rfl, rfl, rfl, by decide +kernel, rfl, by decide +kernel, by decide +kernel⟩
  have L__law_word : HasCat K mg (mkT K lams) "_law_word" [(.word, [119, 111, 114, 100]), (.count, [99, 111, 117, 110, 116]), (.tear, [111, 100, 100])] [110, 111, 110, 101] := cat_of F__law_word rfl rfl (He.glo_ok X G (c.t.d.fact 26 (f := .glo "_law_word") rfl)) sc__law_word rfl (vis_by rfl) (fun _ => rfl) (.cons rfl (He.glo_ok X G (c.t.d.fact 36 (f := .glo "NoWord") rfl)) rfl (i := 1) rfl rfl (.cons rfl (He.glo_ok X G (c.t.d.fact 39 (f := .glo "NoCount") rfl)) rfl (i := 1) rfl rfl (.cons rfl (He.glo_ok X G (c.t.d.fact 30 (f := .glo "TearError") rfl)) rfl (i := 1) rfl rfl .nil))) (F__law_word.bindsN fun _ _ _ _ _ _ us hl => match us, hl with | [_], _ => rfl) rfl rfl
  have bl := FunD.bindsA (ps := ["script"]) F_law fun _ _ _ _ _ _ us hl => match us, hl with | [_], _ => rfl
  refine ⟨fd_law, tf.map (He.cT K), lift ⟨K, w, mkT K lams⟩ 1 sp_law, fun p hp => ?_, fun p hp => ?_, fun p hp => ?_, fun s u => bl s [u] rfl, fun H a l hl _ hT r => law_start hl (fun p hp => ?_) r, fun base KB NB TB => ?_⟩
  · obtain ⟨d, hd, rfl⟩ := List.mem_map.mp hp
    exact c.empty d hd
  · obtain ⟨d, hd, rfl⟩ := List.mem_map.mp hp
    exact c.out d hd
  · obtain ⟨d, hd, rfl⟩ := List.mem_map.mp hp
    exact PySem.W.codeHd_of_K X (c.hd d hd)
  · obtain ⟨x, hx, rfl⟩ := List.mem_map.mp hp
    exact hT (He.cT K (x, none)) (List.mem_map.mpr ⟨(x, none), (show (x, none) ∈ lams.map (fun y => ((y, none) : He.Defn)) from List.mem_map.mpr ⟨x, hx, rfl⟩), rfl⟩)
  have H__law_open : Has (PySem.Challenge.rw_tearwords_k32_words_of_machines).prog w K mg base (mkT K lams) 1 "_law_open" ["script"] sp__law_open := ⟨_, fd__law_open, w__law_open (T := mkT K lams) n_list n_enumerate n_int F__law_open, He.glo_ok X G (c.t.d.fact 17 (f := .glo "_law_open") rfl), F__law_open.kp, F__law_open.bindsN fun _ _ _ _ _ _ us hl => match us, hl with | [_], _ => rfl⟩
  have H__law_spread : Has (PySem.Challenge.rw_tearwords_k32_words_of_machines).prog w K mg base (mkT K lams) 1 "_law_spread" ["cell", "k"] sp__law_spread := ⟨_, fd__law_spread, w__law_spread (T := mkT K lams) n_int F__law_spread, He.glo_ok X G (c.t.d.fact 18 (f := .glo "_law_spread") rfl), F__law_spread.kp, F__law_spread.bindsN fun _ _ _ _ _ _ us hl => match us, hl with | [_, _], _ => rfl⟩
  have H__law_take : Has (PySem.Challenge.rw_tearwords_k32_words_of_machines).prog w K mg base (mkT K lams) 2 "_law_take" ["pen", "many"] sp__law_take := ⟨_, fd__law_take, w__law_take (T := mkT K lams) n_len n_int H__law_spread F__law_take, He.glo_ok X G (c.t.d.fact 19 (f := .glo "_law_take") rfl), F__law_take.kp, F__law_take.bindsN fun _ _ _ _ _ _ us hl => match us, hl with | [_, _], _ => rfl⟩
  have H__law_one_of : Has (PySem.Challenge.rw_tearwords_k32_words_of_machines).prog w K mg base (mkT K lams) 3 "_law_one_of" ["pen", "some"] sp__law_one_of := ⟨_, fd__law_one_of, w__law_one_of (T := mkT K lams) H__law_take n_len F__law_one_of, He.glo_ok X G (c.t.d.fact 20 (f := .glo "_law_one_of") rfl), F__law_one_of.kp, F__law_one_of.bindsN fun _ _ _ _ _ _ us hl => match us, hl with | [_, _], _ => rfl⟩
  have H__law_any_machine : Has (PySem.Challenge.rw_tearwords_k32_words_of_machines).prog w K mg base (mkT K lams) 4 "_law_any_machine" ["pen", "many"] sp__law_any_machine := ⟨_, fd__law_any_machine, w__law_any_machine (T := mkT K lams) H__law_take H__law_one_of n_range n_int n_len n_list n_tuple F__law_any_machine, He.glo_ok X G (c.t.d.fact 21 (f := .glo "_law_any_machine") rfl), F__law_any_machine.kp, F__law_any_machine.bindsN fun _ _ _ _ _ _ us hl => match us, hl with | [_, _], _ => rfl⟩
  have H__law_run : Has (PySem.Challenge.rw_tearwords_k32_words_of_machines).prog w K mg base (mkT K lams) 1 "_law_run" ["machine", "state", "word"] sp__law_run := ⟨_, fd__law_run, w__law_run (T := mkT K lams)  F__law_run, He.glo_ok X G (c.t.d.fact 22 (f := .glo "_law_run") rfl), F__law_run.kp, F__law_run.bindsN fun _ _ _ _ _ _ us hl => match us, hl with | [_, _, _], _ => rfl⟩
  have H__law_any_path : Has (PySem.Challenge.rw_tearwords_k32_words_of_machines).prog w K mg base (mkT K lams) 4 "_law_any_path" ["pen", "machine", "many"] sp__law_any_path := ⟨_, fd__law_any_path, w__law_any_path (T := mkT K lams) n_range H__law_run H__law_one_of F__law_any_path, He.glo_ok X G (c.t.d.fact 28 (f := .glo "_law_any_path") rfl), F__law_any_path.kp, F__law_any_path.bindsN fun _ _ _ _ _ _ us hl => match us, hl with | [_, _, _], _ => rfl⟩
  have H_are_letters : Has (PySem.Challenge.rw_tearwords_k32_words_of_machines).prog w K mg base (mkT K lams) 1 "are_letters" ["thing"] sp_are_letters := ⟨_, fd_are_letters, w_are_letters (T := mkT K lams) n_isinstance n_str n_len c_MOST_LETTERS n_list n_sorted n_set n_all c_SMALL F_are_letters, He.glo_ok X G (c.t.d.fact 1 (f := .glo "are_letters") rfl), F_are_letters.kp, F_are_letters.bindsN fun _ _ _ _ _ _ us hl => match us, hl with | [_], _ => rfl⟩
  have H_is_within : Has (PySem.Challenge.rw_tearwords_k32_words_of_machines).prog w K mg base (mkT K lams) 1 "is_within" ["thing", "least", "most"] sp_is_within := ⟨_, fd_is_within, w_is_within (T := mkT K lams) n_isinstance n_int n_bool F_is_within, He.glo_ok X G (c.t.d.fact 0 (f := .glo "is_within") rfl), F_is_within.kp, F_is_within.bindsN fun _ _ _ _ _ _ us hl => match us, hl with | [_, _, _], _ => rfl⟩
  have H_is_state : Has (PySem.Challenge.rw_tearwords_k32_words_of_machines).prog w K mg base (mkT K lams) 2 "is_state" ["thing", "letters", "many"] sp_is_state := ⟨_, fd_is_state, w_is_state (T := mkT K lams) n_isinstance n_tuple n_len n_all H_is_within F_is_state, He.glo_ok X G (c.t.d.fact 2 (f := .glo "is_state") rfl), F_is_state.kp, F_is_state.bindsN fun _ _ _ _ _ _ us hl => match us, hl with | [_, _, _], _ => rfl⟩
  have H_are_ends : Has (PySem.Challenge.rw_tearwords_k32_words_of_machines).prog w K mg base (mkT K lams) 2 "are_ends" ["thing", "many"] sp_are_ends := ⟨_, fd_are_ends, w_are_ends (T := mkT K lams) n_isinstance n_tuple n_all H_is_within n_list n_sorted n_set F_are_ends, He.glo_ok X G (c.t.d.fact 3 (f := .glo "are_ends") rfl), F_are_ends.kp, F_are_ends.bindsN fun _ _ _ _ _ _ us hl => match us, hl with | [_, _], _ => rfl⟩
  have H_is_machine : Has (PySem.Challenge.rw_tearwords_k32_words_of_machines).prog w K mg base (mkT K lams) 3 "is_machine" ["thing"] sp_is_machine := ⟨_, fd_is_machine, w_is_machine (T := mkT K lams) n_isinstance n_tuple n_len H_are_letters c_MOST_STATES n_all H_is_state H_are_ends F_is_machine, He.glo_ok X G (c.t.d.fact 4 (f := .glo "is_machine") rfl), F_is_machine.kp, F_is_machine.bindsN fun _ _ _ _ _ _ us hl => match us, hl with | [_], _ => rfl⟩
  have H_need_machine : Has (PySem.Challenge.rw_tearwords_k32_words_of_machines).prog w K mg base (mkT K lams) 4 "need_machine" ["thing"] sp_need_machine := ⟨_, fd_need_machine, w_need_machine (T := mkT K lams) H_is_machine X_NoMachine F_need_machine, He.glo_ok X G (c.t.d.fact 5 (f := .glo "need_machine") rfl), F_need_machine.kp, F_need_machine.bindsN fun _ _ _ _ _ _ us hl => match us, hl with | [_], _ => rfl⟩
  have H_is_made_of : Has (PySem.Challenge.rw_tearwords_k32_words_of_machines).prog w K mg base (mkT K lams) 1 "is_made_of" ["text", "letters"] sp_is_made_of := ⟨_, fd_is_made_of, w_is_made_of (T := mkT K lams) n_all F_is_made_of, He.glo_ok X G (c.t.d.fact 6 (f := .glo "is_made_of") rfl), F_is_made_of.kp, F_is_made_of.bindsN fun _ _ _ _ _ _ us hl => match us, hl with | [_, _], _ => rfl⟩
  have H_is_text : Has (PySem.Challenge.rw_tearwords_k32_words_of_machines).prog w K mg base (mkT K lams) 2 "is_text" ["thing", "letters"] sp_is_text := ⟨_, fd_is_text, w_is_text (T := mkT K lams) n_isinstance n_str n_len c_MOST_SIGNS H_is_made_of F_is_text, He.glo_ok X G (c.t.d.fact 7 (f := .glo "is_text") rfl), F_is_text.kp, F_is_text.bindsN fun _ _ _ _ _ _ us hl => match us, hl with | [_, _], _ => rfl⟩
  have H_need_text : Has (PySem.Challenge.rw_tearwords_k32_words_of_machines).prog w K mg base (mkT K lams) 3 "need_text" ["thing", "letters"] sp_need_text := ⟨_, fd_need_text, w_need_text (T := mkT K lams) H_is_text X_NoWord F_need_text, He.glo_ok X G (c.t.d.fact 8 (f := .glo "need_text") rfl), F_need_text.kp, F_need_text.bindsN fun _ _ _ _ _ _ us hl => match us, hl with | [_, _], _ => rfl⟩
  have H_gone_on : Has (PySem.Challenge.rw_tearwords_k32_words_of_machines).prog w K mg base (mkT K lams) 1 "gone_on" ["machine", "state", "word"] sp_gone_on := ⟨_, fd_gone_on, w_gone_on (T := mkT K lams)  F_gone_on, He.glo_ok X G (c.t.d.fact 9 (f := .glo "gone_on") rfl), F_gone_on.kp, F_gone_on.bindsN fun _ _ _ _ _ _ us hl => match us, hl with | [_, _, _], _ => rfl⟩
  have H_raw_has : Has (PySem.Challenge.rw_tearwords_k32_words_of_machines).prog w K mg base (mkT K lams) 2 "raw_has" ["machine", "word"] sp_raw_has := ⟨_, fd_raw_has, w_raw_has (T := mkT K lams) H_gone_on F_raw_has, He.glo_ok X G (c.t.d.fact 10 (f := .glo "raw_has") rfl), F_raw_has.kp, F_raw_has.bindsN fun _ _ _ _ _ _ us hl => match us, hl with | [_, _], _ => rfl⟩
  have H_has_word : Has (PySem.Challenge.rw_tearwords_k32_words_of_machines).prog w K mg base (mkT K lams) 5 "has_word" ["machine", "word"] sp_has_word := ⟨_, fd_has_word, w_has_word (T := mkT K lams) H_need_machine H_need_text H_raw_has F_has_word, He.glo_ok X G (c.t.d.fact 11 (f := .glo "has_word") rfl), F_has_word.kp, F_has_word.bindsN fun _ _ _ _ _ _ us hl => match us, hl with | [_, _], _ => rfl⟩
  have H__law_has : Has (PySem.Challenge.rw_tearwords_k32_words_of_machines).prog w K mg base (mkT K lams) 2 "_law_has" ["machine", "word"] sp__law_has := ⟨_, fd__law_has, w__law_has (T := mkT K lams) H__law_run F__law_has, He.glo_ok X G (c.t.d.fact 23 (f := .glo "_law_has") rfl), F__law_has.kp, F__law_has.bindsN fun _ _ _ _ _ _ us hl => match us, hl with | [_, _], _ => rfl⟩
  have H__law_firsts : Has (PySem.Challenge.rw_tearwords_k32_words_of_machines).prog w K mg base (mkT K lams) 2 "_law_firsts" ["machine", "many"] sp__law_firsts := ⟨_, fd__law_firsts, w__law_firsts (T := mkT K lams) n_dict n_range n_enumerate n_len H__law_run F__law_firsts, He.glo_ok X G (c.t.d.fact 27 (f := .glo "_law_firsts") rfl), F__law_firsts.kp, F__law_firsts.bindsN fun _ _ _ _ _ _ us hl => match us, hl with | [_, _], _ => rfl⟩
  have H_need_many : Has (PySem.Challenge.rw_tearwords_k32_words_of_machines).prog w K mg base (mkT K lams) 2 "need_many" ["many"] sp_need_many := ⟨_, fd_need_many, w_need_many (T := mkT K lams) H_is_within c_MOST_WORDS X_NoCount F_need_many, He.glo_ok X G (c.t.d.fact 15 (f := .glo "need_many") rfl), F_need_many.kp, F_need_many.bindsN fun _ _ _ _ _ _ us hl => match us, hl with | [_], _ => rfl⟩
  have H_living : Has (PySem.Challenge.rw_tearwords_k32_words_of_machines).prog w K mg base (mkT K lams) 1 "living" ["machine"] sp_living := ⟨_, fd_living, w_living (T := mkT K lams) n_enumerate n_any F_living, He.glo_ok X G (c.t.d.fact 12 (f := .glo "living") rfl), F_living.kp, F_living.bindsN fun _ _ _ _ _ _ us hl => match us, hl with | [_], _ => rfl⟩
  have H_nexts : Has (PySem.Challenge.rw_tearwords_k32_words_of_machines).prog w K mg base (mkT K lams) 1 "nexts" ["machine", "state"] sp_nexts := ⟨_, fd_nexts, w_nexts (T := mkT K lams) n_list n_zip F_nexts, He.glo_ok X G (c.t.d.fact 13 (f := .glo "nexts") rfl), F_nexts.kp, F_nexts.bindsN fun _ _ _ _ _ _ us hl => match us, hl with | [_, _], _ => rfl⟩
  have H_raw_first : Has (PySem.Challenge.rw_tearwords_k32_words_of_machines).prog w K mg base (mkT K lams) 2 "raw_first" ["machine", "many"] sp_raw_first := ⟨_, fd_raw_first, w_raw_first (T := mkT K lams) H_living n_len H_nexts F_raw_first, He.glo_ok X G (c.t.d.fact 14 (f := .glo "raw_first") rfl), F_raw_first.kp, F_raw_first.bindsN fun _ _ _ _ _ _ us hl => match us, hl with | [_, _], _ => rfl⟩
  have H_first_words : Has (PySem.Challenge.rw_tearwords_k32_words_of_machines).prog w K mg base (mkT K lams) 5 "first_words" ["machine", "many"] sp_first_words := ⟨_, fd_first_words, w_first_words (T := mkT K lams) H_need_machine H_need_many H_raw_first F_first_words, He.glo_ok X G (c.t.d.fact 16 (f := .glo "first_words") rfl), F_first_words.kp, F_first_words.bindsN fun _ _ _ _ _ _ us hl => match us, hl with | [_, _], _ => rfl⟩
  exact w_law (T := mkT K lams) H__law_open n_range H__law_any_machine n_len n_repr H__law_any_path H__law_take H__law_one_of H_has_word H__law_has H__law_firsts H_first_words L__law_word n_enumerate n_tuple (excK_of (ts := lams) m1) (TB (He.cT K ("law", none)) (List.mem_map.mpr ⟨("law", none), by simp [tf], rfl⟩)) (tab_in (by simp [lams])) (tab_one m2 (by simp [lams])) F_law
end Tw
open PySem PySem.W PySem.Calls PyProof.Rows
theorem PySem.Challenge.cw_tearwords_k32_words_of_machines_holds : PySem.Challenge.rw_tearwords_k32_words_of_machines.Holds := by
  w_on; o_law
  refine HandSHeadRun.head_any (r := OpenLaw.row PySem.Challenge.rw_tearwords_k32_words_of_machines) (q := view (OpenLaw.row PySem.Challenge.rw_tearwords_k32_words_of_machines).prog [41]) (H := Hk32.hk) (ob := Hk32.ob) (M := 4000) (loose := Hk32.loose) (d := HandSHeadRun.topDef (OpenLaw.row PySem.Challenge.rw_tearwords_k32_words_of_machines).prog 41) (kwd := []) Hk32.ob_eq
    (by kernel_rfl) (fun s => by kernel_rfl) Hk32.run (by kernel_rfl) (by kernel_rfl) (by kernel_rfl) (by rfl) (by first | assumption | decide +kernel) (by decide +kernel) ⟨rfl, rfl, rfl, rfl, rfl, by decide +kernel⟩ ?hw ?hc
  case hw => w_witness2
  case hc =>
    refine Tw.walk_G (l := PySem.Challenge.rw_tearwords_k32_words_of_machines) (n := 63) (k := 8) (x := "script") rfl (by decide) (by kernel_rfl) ⟨rfl, by decide, by decide⟩ ?F
    intro w mg fl h Y G hmg0
    obtain ⟨K, KX, c⟩ := Y
    have hmg : mg ("law" : PySem.Str) = some (.ref fl) := by
      have e : (HandSHeadRun.topDef (OpenLaw.row PySem.Challenge.rw_tearwords_k32_words_of_machines).prog 41).name = ("law" : PySem.Str) := by kernel_rfl
      rw [← e]
      exact hmg0
    exact ⟨K, KX, Tw.facts_Hk32 KX G hmg c⟩
