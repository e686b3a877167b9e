import PyProof.Rows.All
import Wide.All
import OpenK.AllK
import Wide.FinOn
import HandS.ForMost
import HandS.ForExc
import HandS.Wide
import HandS.IsInst
import HandS.FStr
import HandS.Deep
import HandS.TupAny
import HandS.HotCalls
import HandS.HeadHook1
import HandS.Lambda
import HandS.SortKw
import HandS.HeadHook4
import KE.SortKeyHeap
import HandS.Dict
import HandS.Small
import HandS.Flow
import HandS.TryOnly
import HandS.More
import HandS.Defaults
import HandS.Ends
import HandS.StrMore
import HandS.RaiseMore
import HandS.Style
import KE.GoesEnum
import HandS.Zip
import HandS.ExcInit
import HandS.ExcOwn
import HandS.TryMany
import HandS.SortInts
import HandS.WordsDict
import HandS.HeadHook2
import HandS.HeadHook3
import KE.KExcIs
import HandS.ExcField
import HandS.ExcCtx
import HandS.WideBits
import HandS.TupMul
import PyProof.IsRules
import PyProof.Rows.TupDisplay
import HandS.ExcIs
import KE.DataMinMax
import PyProof.Claim2Refuses
import KE.KDictCopyH
import HandS.Iter
import KE.KDictZip
import HandS.Strs
import HandS.SetFor
import HandS.Set
import HandS.Replace
import HandS.EndTab
import HandS.Head2
import KE.KIntText
import KE.GoesZip
import KE.GoesMore
import KE.KTurns
import HandS.ExcInitHot
import HandS.RaiseFrom
import HandS.SuiteRaise
import KE.IntTextLaws
import KE.KTryMore
import PyProof.SumWalkG
import PyProof.WalksMore
import PyProof.ListOps
import PyProof.FactsAll.subtypes_4
import KE.SortData
import HandS.Head0
import HandS.Head1
import HandS.HeadEnd
import PySem.Challenge.RW_ribboncast_k21_laid_out_by_all_ways
set_option Elab.async false
set_option linter.all false
set_option maxRecDepth 100000
set_option maxHeartbeats 4000000
namespace BV
open PySem PySem.Spec PyProof.Rows L2

abbrev D := PyData
inductive Ow where
 | slot (i : Nat) | cell (n : Nat) | tmp | prot | seen
 deriving DecidableEq
abbrev Gh := Addr → Option Ow

def b0C : Key → D
 | .inl i => .int i
 | .inr x => .str x
def b9c (ks : List Int) : Int := reduceHash (Builtin.Tuple.tupleHashOf (ks.map hashInt))
def b77 (x : List Int × Addr × Value) : DictEntry := ⟨b9c x.1, .ref x.2.1, x.2.2⟩
def tdf (ep : Nat) (a : Addr) (xs : List (List Int × Addr × Value)) (h : Heap) : Prop := ∃ o es, h.get? a = some o ∧ o.ExactDict ∧ o.data = .dict es ep ∧ es.toList = xs.map b77 ∧ (xs.map (·.1)).Nodup
theorem W8 {ep : Nat} {a : Addr} {xs : List (List Int × Addr × Value)} : ∀ h1 h2 : Heap, tdf ep a xs h1 → (∀ o, h1.get? a = some o → h2.get? a = some o) → tdf ep a xs h2 := fun h1 h2 ⟨o, es, e, r⟩ k => ⟨o, es, k o e, r⟩
abbrev HX (H : Hp) (a : Addr) (xs : List (List Int × Addr × Value)) : Prop := ∃ ep, H a = some (.ext (tdf ep a xs))
abbrev KX (K : PySem.W.Frag) (H : Hp) : List (List Int × V) → List (List Int × Addr × Value) → Prop := Paired fun p q => p.1 = q.1 ∧ SqT K H q.2.1 (p.1.map V.int) ∧ RelV p.2 q.2.2
def DAtW (K : PySem.W.Frag) (q : Bool) (H : Hp) (a : Addr) (ks : List D) (vs : List V) : Prop := match q with
 | false => ∃ kvs : List (Key × V), H a = some (.dK kvs) ∧ ks = kvs.map (fun p => b0C p.1) ∧ vs = kvs.map (·.2)
 | true => ∃ (kvs : List (List Int × V)) (xs : List (List Int × Addr × Value)), HX H a xs ∧ KX K H kvs xs ∧ (a == sysModules) = false ∧ ks = kvs.map (fun p => .tuple (p.1.map PyData.int)) ∧ vs = kvs.map (·.2)
def DAt (K : PySem.W.Frag) (q : Bool) (H : Hp) (a : Addr) (ks : List D) (vs : List V) : Prop := match q with
 | false => ∃ kvs : List (Key × V), Rd H a (.dK kvs) ∧ ks = kvs.map (fun p => b0C p.1) ∧ vs = kvs.map (·.2)
 | true => ∃ (kvs : List (List Int × V)) (xs : List (List Int × Addr × Value)), HX H a xs ∧ KX K H kvs xs ∧ (a == sysModules) = false ∧ ks = kvs.map (fun p => .tuple (p.1.map PyData.int)) ∧ vs = kvs.map (·.2)
theorem DAtW.r {K : PySem.W.Frag} {q : Bool} {H : Hp} {a : Addr} {ks : List D} {vs : List V} (h : DAtW K q H a ks vs) : DAt K q H a ks vs := by
 cases q with
 | false =>
  obtain ⟨kvs, e, r⟩ := h
  exact ⟨kvs, .inl e, r⟩
 | true => exact h
def mkD (q : Bool) (kvs : List (D × D)) : List (D × D) := if q then (.none, .none) :: kvs else kvs
def unD : List (D × D) → Bool × List (D × D)
 | (.none, .none) :: r => (true, r)
 | r => (false, r)
theorem b4T (k : Key) (d : D) (r : List (D × D)) : unD ((b0C k, d) :: r) = (false, (b0C k, d) :: r) := by cases k <;> rfl
theorem DAt.un {q : Bool} {H : Hp} {a : Addr} {ks : List D} {vs : List V} {ds : List D} {K : PySem.W.Frag} (h : DAt K q H a ks vs) : unD (mkD q (ks.zip ds)) = (q, ks.zip ds) := by
 cases q with
 | true => rfl
 | false =>
  obtain ⟨kvs, _, e, _⟩ := h
  subst e
  show unD _ = _
  cases kvs with
  | nil => rfl
  | cons p kvs =>
   cases ds with
   | nil => rfl
   | cons d ds => exact b4T p.1 d _

mutual
inductive Rep (K : PySem.W.Frag) (o : Gh) (H : Hp) : V → D → Prop
 | non : Rep K o H .non .none
 | bl (b : Bool) : Rep K o H (.bl b) (.bool b)
 | int (i : Int) : Rep K o H (.int i) (.int i)
 | str (x : Str) : PyData.strOk x = true → x.length ≤ sizeLine → Rep K o H (.str x) (.str x)
 | lst (a : Addr) (vs : List V) (ds : List D) : H a = some (.lst vs) → o a = none → vs.length ≤ sizeLine → RepAll K o H vs ds → Rep K o H (.ref a) (.list ds)
 | tup (a : Addr) (vs : List V) (ds : List D) : SqT K H a vs → vs.length ≤ sizeLine → RepAll K o H vs ds → Rep K o H (.ref a) (.tuple ds)
 | dct (q : Bool) (a : Addr) (ks : List D) (vs : List V) (ds : List D) (kvs : List (D × D)) : DAt K q H a ks vs → o a = none → vs.length ≤ sizeLine → ks.length = vs.length → RepAll K o H vs ds → kvs = mkD q (ks.zip ds) → Rep K o H (.ref a) (.dict kvs)
inductive RepAll (K : PySem.W.Frag) (o : Gh) (H : Hp) : List V → List D → Prop
 | nil : RepAll K o H [] []
 | cons (v : V) (d : D) (vs : List V) (ds : List D) : Rep K o H v d → RepAll K o H vs ds → RepAll K o H (v :: vs) (d :: ds)
end

def C0 : HO → Prop
 | .lst _ => True
 | .dK _ => True
 | .dT _ => True
 | .ext _ => True
 | .ins _ _ _ => True
 | .own _ => True
 | .tbl _ => True
 | _ => False
def Trk (o : Gh) (H : Hp) : Prop := ∀ a, o a ≠ none → ∃ u, H a = some u ∧ C0 u

section
variable {K : PySem.W.Frag} {o o' : Gh} {H H' : Hp}
def Kept (o : Gh) (H : Hp) (o' : Gh) (H' : Hp) : Prop := ∀ a u, H a = some u → o a = none → H' a = some u ∧ o' a = none
theorem b47 {a : Addr} {u : HO} (h : ∀ u, H a = some u → H' a = some u) (r : Rd H a u) : Rd H' a u := by
 rcases r with r | ⟨ob, r⟩
 ·exact .inl (h _ r)
 ·exact .inr ⟨ob, h _ r⟩
theorem KX.kept {kvs : List (List Int × V)} {xs : List (List Int × Addr × Value)} (hk : ∀ b us, SqT K H b us → SqT K H' b us) (r : KX K H kvs xs) : KX K H' kvs xs := Paired.mapP r fun _ _ z => ⟨z.1, hk _ _ z.2.1, z.2.2⟩
theorem DAt.kept {q : Bool} {a : Addr} (h : ∀ u, H a = some u → H' a = some u) (hk : ∀ b us, SqT K H b us → SqT K H' b us) {ks : List D} {vs : List V} (d : DAt K q H a ks vs) : DAt K q H' a ks vs := by
 cases q with
 | false =>
  obtain ⟨kvs, e, r⟩ := d
  exact ⟨kvs, b47 h e, r⟩
 | true =>
  obtain ⟨kvs, xs, e, k, r⟩ := d
  exact ⟨kvs, xs, e.imp fun _ e => h _ e, k.kept hk, r⟩
theorem DAtW.kept {q : Bool} {a : Addr} (h : ∀ u, H a = some u → H' a = some u) (hk : ∀ b us, SqT K H b us → SqT K H' b us) {ks : List D} {vs : List V} (d : DAtW K q H a ks vs) : DAtW K q H' a ks vs := by
 cases q with
 | false =>
  obtain ⟨kvs, e, r⟩ := d
  exact ⟨kvs, h _ e, r⟩
 | true =>
  obtain ⟨kvs, xs, e, k, r⟩ := d
  exact ⟨kvs, xs, e.imp fun _ e => h _ e, k.kept hk, r⟩
theorem b9J {a : Addr} {u : HO} (r : Rd H a u) : ∃ u, H a = some u := by
 rcases r with r | ⟨ob, r⟩
 ·exact ⟨_, r⟩
 ·exact ⟨_, r⟩
theorem DAt.is {q : Bool} {a : Addr} {ks : List D} {vs : List V} (d : DAt K q H a ks vs) : ∃ u, H a = some u ∧ True := by
 cases q with
 | false =>
  obtain ⟨kvs, e, r⟩ := d
  obtain ⟨u, h⟩ := b9J e
  exact ⟨u, h, trivial⟩
 | true =>
  obtain ⟨kvs, xs, ⟨_, e⟩, r⟩ := d
  exact ⟨_, e, trivial⟩
theorem Trk.free (t : Trk o H) {a : Addr} {u : HO} (h : H a = some u) (n : ¬ C0 u) : o a = none := by
 cases e : o a with
 | none => rfl
 | some w =>
  obtain ⟨u', h', q⟩ := t a (by rw [e]; simp)
  rw [h] at h'; cases h'
  exact absurd q n
theorem Trk.new (t : Trk o H) {a : Addr} (h : H a = none) : o a = none := by
 cases e : o a with
 | none => rfl
 | some w =>
  obtain ⟨u', h', q⟩ := t a (by rw [e]; simp)
  rw [h] at h'; cases h'
theorem SqT.kept (t : Trk o H) (k : Kept o H o' H') {a : Addr} {vs : List V} (h : SqT K H a vs) : SqT K H' a vs := by
 rcases h with (h | ⟨ob, h⟩) | h
 ·exact .inl (.inl (k a _ h (t.free h (fun z => z))).1)
 ·exact .inl (.inr ⟨ob, (k a _ h (t.free h (fun z => z))).1⟩)
 ·exact .inr h
mutual
theorem Rep.kept (t : Trk o H) (k : Kept o H o' H') : ∀ {v : V} {d : D}, Rep K o H v d → Rep K o' H' v d
 | _, _, .non => .non
 | _, _, .bl b => .bl b
 | _, _, .int i => .int i
 | _, _, .str x h1 h2 => .str x h1 h2
 | _, _, .lst a vs ds h1 h2 h3 h4 => .lst a vs ds (k a _ h1 h2).1 (k a _ h1 h2).2 h3 (RepAll.kept t k h4)
 | _, _, .tup a vs ds h1 h2 h3 => .tup a vs ds (SqT.kept t k h1) h2 (RepAll.kept t k h3)
 | _, _, .dct tk a ks vs ds kvs h1 h2 h3 h5 h4 e => by
  obtain ⟨u, hu, _⟩ := h1.is
  exact .dct tk a ks vs ds kvs (h1.kept (fun u hu => (k a u hu h2).1) fun b us z => SqT.kept t k z) (k a u hu h2).2 h3 h5 (RepAll.kept t k h4) e
theorem RepAll.kept (t : Trk o H) (k : Kept o H o' H') : ∀ {vs : List V} {ds : List D}, RepAll K o H vs ds → RepAll K o' H' vs ds
 | _, _, .nil => .nil
 | _, _, .cons v d vs ds h1 h2 => .cons v d vs ds (Rep.kept t k h1) (RepAll.kept t k h2)
end
theorem RepAll.length : ∀ {vs : List V} {ds : List D}, RepAll K o H vs ds → vs.length = ds.length
 | _, _, .nil => rfl
 | _, _, .cons v d vs ds _ h2 => by rw [List.length_cons, List.length_cons, RepAll.length h2]
theorem RepAll.append : ∀ {vs ws : List V} {ds es : List D}, RepAll K o H vs ds → RepAll K o H ws es → RepAll K o H (vs ++ ws) (ds ++ es)
 | _, _, _, _, .nil, q => q
 | _, _, _, _, .cons v d vs ds h1 h2, q => .cons v d _ _ h1 (RepAll.append h2 q)
theorem RepAll.get : ∀ {vs : List V} {ds : List D} {i : Nat} {d : D}, RepAll K o H vs ds → ds[i]? = some d → ∃ v, vs[i]? = some v ∧ Rep K o H v d
 | _, _, _, _, .nil, e => by simp at e
 | _, _, 0, _, .cons v d vs ds h1 _, e => by simp at e; subst e; exact ⟨v, rfl, h1⟩
 | _, _, i + 1, _, .cons v d vs ds _ h2, e => by
  obtain ⟨w, q1, q2⟩ := RepAll.get (i := i) h2 (by simpa using e)
  exact ⟨w, by simpa using q1, q2⟩
theorem RepAll.set {v : V} {d : D} (r : Rep K o H v d) : ∀ {vs : List V} {ds : List D} (i : Nat), RepAll K o H vs ds → RepAll K o H (vs.set i v) (ds.set i d)
 | _, _, _, .nil => .nil
 | _, _, 0, .cons _ _ vs ds _ h2 => .cons _ _ _ _ r h2
 | _, _, i + 1, .cons _ _ vs ds h1 h2 => .cons _ _ _ _ h1 (RepAll.set r i h2)
theorem RepAll.take : ∀ {vs : List V} {ds : List D} (n : Nat), RepAll K o H vs ds → RepAll K o H (vs.take n) (ds.take n)
 | _, _, 0, _ => .nil
 | _, _, _ + 1, .nil => .nil
 | _, _, n + 1, .cons _ _ _ _ h1 h2 => .cons _ _ _ _ h1 (RepAll.take n h2)
theorem RepAll.drop : ∀ {vs : List V} {ds : List D} (n : Nat), RepAll K o H vs ds → RepAll K o H (vs.drop n) (ds.drop n)
 | _, _, 0, h => h
 | _, _, _ + 1, .nil => .nil
 | _, _, n + 1, .cons _ _ _ _ _ h2 => RepAll.drop n h2
theorem RepAll.reverse {vs : List V} {ds : List D} (h : RepAll K o H vs ds) : RepAll K o H vs.reverse ds.reverse := by
 induction vs generalizing ds with
 | nil => cases h; exact .nil
 | cons v vs ih =>
  cases h with
  | cons _ d _ ds h1 h2 =>
   rw [List.reverse_cons, List.reverse_cons]
   exact (ih h2).append (.cons _ _ _ _ h1 .nil)
theorem Rep.nonV {v : V} (h : Rep K o H v .none) : v = .non := by cases h; rfl
theorem Rep.blV {v : V} {b : Bool} (h : Rep K o H v (.bool b)) : v = .bl b := by cases h; rfl
theorem Rep.intV {v : V} {i : Int} (h : Rep K o H v (.int i)) : v = .int i := by cases h; rfl
theorem Rep.strV {v : V} {x : Str} (h : Rep K o H v (.str x)) : v = .str x ∧ PyData.strOk x = true ∧ x.length ≤ sizeLine := by cases h; exact ⟨rfl, by assumption, by assumption⟩
theorem Rep.lstV {v : V} {ds : List D} (h : Rep K o H v (.list ds)) : ∃ a vs, v = .ref a ∧ H a = some (.lst vs) ∧ o a = none ∧ vs.length ≤ sizeLine ∧ RepAll K o H vs ds := by
 cases h with
 | lst a vs ds h1 h2 h3 h4 => exact ⟨a, vs, rfl, h1, h2, h3, h4⟩
theorem Rep.tupV {v : V} {ds : List D} (h : Rep K o H v (.tuple ds)) : ∃ a vs, v = .ref a ∧ SqT K H a vs ∧ vs.length ≤ sizeLine ∧ RepAll K o H vs ds := by
 cases h with
 | tup a vs ds h1 h2 h3 => exact ⟨a, vs, rfl, h1, h2, h3⟩
theorem Rep.tupW {v : V} {ds : List D} (h : Rep K o H v (.tuple ds)) : ∃ a vs, v = .ref a ∧ SqT K H a vs ∧ vs.length ≤ sizeLine ∧ RepAll K o H vs ds := by
 cases h with
 | tup a vs ds h1 h2 h3 => exact ⟨a, vs, rfl, h1, h2, h3⟩
mutual
def E2 : D → Bool
 | .list xs => w9 xs
 | .tuple xs => w9 xs
 | .dict _ => false
 | .none => true
 | .bool _ => true
 | .int _ => true
 | .str _ => true
def w9 : List D → Bool
 | [] => true
 | x :: xs => E2 x && w9 xs
end
mutual
theorem Rep.dp : ∀ {v : V} {d : D}, Rep K o H v d → E2 d = true → Dp K H v d
 | _, _, .non, _ => .non
 | _, _, .bl b, _ => .bl b
 | _, _, .int i, _ => .int i
 | _, _, .str x h1 h2, _ => .str x
 | _, _, .lst a vs ds h1 h2 h3 h4, n => .lst (.of h1) (RepAll.dp h4 n)
 | _, _, .tup a vs ds h1 h2 h3, n => .tup h1 (RepAll.dp h3 n)
 | _, _, .dct tk a ks vs ds kvs h1 h2 h3 h5 h4 e, n => nomatch n
theorem RepAll.dp : ∀ {vs : List V} {ds : List D}, RepAll K o H vs ds → w9 ds = true → DpAll K H vs ds
 | _, _, .nil, _ => .nil
 | _, _, .cons v d vs ds h1 h2, n => by
  rw [w9, Bool.and_eq_true] at n
  exact .cons (Rep.dp h1 n.1) (RepAll.dp h2 n.2)
end
mutual
theorem Rep.can : ∀ {v : V} {d : D}, Rep K o H v d → E2 d = true → PyData.canLay0 d = true
 | _, _, .non, _ => rfl
 | _, _, .bl b, _ => rfl
 | _, _, .int i, _ => rfl
 | _, _, .str x h1 h2, _ => h1
 | _, _, .lst a vs ds h1 h2 h3 h4, n => RepAll.can h4 n
 | _, _, .tup a vs ds h1 h2 h3, n => RepAll.can h3 n
 | _, _, .dct tk a ks vs ds kvs h1 h2 h3 h5 h4 e, n => nomatch n
theorem RepAll.can : ∀ {vs : List V} {ds : List D}, RepAll K o H vs ds → w9 ds = true → PyData.canLayAll0 ds = true
 | _, _, .nil, _ => rfl
 | _, _, .cons v d vs ds h1 h2, n => by
  rw [w9, Bool.and_eq_true] at n
  show (PyData.canLay0 d && PyData.canLayAll0 ds) = true
  rw [Rep.can h1 n.1, RepAll.can h2 n.2]
  rfl
end
end
end BV
namespace BV
open PySem PySem.Spec PyProof.Rows L2 LamX

section
variable {X : Cx} {pins : List (Addr × Obj)} {σ : L2.St} {H : Hp} {s : Shared}
end
section
variable {prog : Program} {w : World} {A : Around} {s : Shared} {mg mb : Str → Option Value}
end
section
variable {X : Cx} {T : List V}
end
end BV
namespace BV
open PySem L2

structure Exc where
 cls : Str
 fld : Option (Str × D)
structure DskV where
 job : Option D
 lines : Option D
 ahead : Option (List D)
 undone : Option (List D)
inductive T where
 | val (d : D) | own (xs : List D) | own2 (xss : List (List D)) | ownd (q : Bool) (kvs : List (D × D)) | cel (n : Nat) | scr (ns : List Int) | exn (a C : Addr) (d : Option Addr) (e : Exc) | tree (d : D) | rof (b : Bool) (v : DskV) | recs (b : Bool) (ns : List Nat)
inductive Ce where
 | dead | lst (xs : List D) | dct (q : Bool) (kvs : List (D × D)) | tab | rcd (b : Bool) (v : DskV)
abbrev Sto := List Ce
abbrev En := List (Option T)
inductive R (α : Type) where
 | ok (a : α) (S : Sto) | exc (e : Exc) (S : Sto) | bad
inductive Fl where
 | nx (ρ : En) (S : Sto) | bk (ρ : En) (S : Sto) | ct (ρ : En) (S : Sto) | rt (t : T) (S : Sto) | ex (e : Exc) (ρ : En) (S : Sto) | bad
abbrev SE := En → Sto → R T
abbrev SS := En → Sto → Fl
abbrev Fn := List T → Sto → R T
def asD : T → Option D
 | .val d => some d
 | .own xs => some (.list xs)
 | .own2 xss => some (.list (xss.map PyData.list))
 | .ownd q kvs => some (.dict (mkD q kvs))
 | .cel _ => none
 | .scr _ => none
 | .exn _ _ _ _ => none
 | .tree d => some d
 | .rof _ _ => none
 | .recs _ _ => none
def asA : T → T
 | .val d => .val d
 | .own xs => .val (.list xs)
 | .own2 xss => .val (.list (xss.map PyData.list))
 | .ownd q kvs => .val (.dict (mkD q kvs))
 | .cel n => .cel n
 | .scr ns => .scr ns
 | .exn a C d e => .exn a C d e
 | .tree d => .val d
 | .rof b v => .rof b v
 | .recs _ ns => .recs false ns
def R.d (r : R T) (k : D → Sto → R T) : R T := match r with
 | .ok t S => (match asD t with | some d => k d S | none => .bad)
 | .exc e S => .exc e S
 | .bad => .bad
def R.t (r : R T) (k : T → Sto → R T) : R T := match r with
 | .ok t S => k t S
 | .exc e S => .exc e S
 | .bad => .bad
theorem R.d_okn {t : T} {S : Sto} {k : D → Sto → R T} (h : asD t = none) : R.d (.ok t S) k = .bad := by unfold R.d; simp only [h]
theorem R.d_oks {t : T} {S : Sto} {k : D → Sto → R T} {d : D} (h : asD t = some d) : R.d (.ok t S) k = k d S := by unfold R.d; simp only [h]
abbrev Cs := List Addr
def vE : D → Option V
 | .none => some .non
 | .int i => some (.int i)
 | _ => none
def FldR (H : Hp) (d : Option Addr) (e : Exc) : Prop := match e.fld with
 | none => d = none
 | some (f, dv) => ∃ dd v, d = some dd ∧ vE dv = some v ∧ H dd = some (.xd [(f, v)])
theorem FldR.mono {H H' : Hp} {d : Option Addr} {e : Exc} (k : ∀ a fs, H a = some (.xd fs) → H' a = some (.xd fs)) (r : FldR H d e) : FldR H' d e := by
 unfold FldR at *
 split at r
 ·exact r
 ·obtain ⟨dd, v, e1, e2, e3⟩ := r
  exact ⟨dd, v, e1, e2, k _ _ e3⟩
theorem FldR.kept {o o' : Gh} {H H' : Hp} {d : Option Addr} {e : Exc} (tr : Trk o H) (k : Kept o H o' H') (r : FldR H d e) : FldR H' d e := r.mono fun a fs h => (k a _ h (tr.free h (fun z => z))).1
mutual
inductive RepW (K : PySem.W.Frag) (o : Gh) (w : Ow) (H : Hp) : V → D → List Addr → Prop
 | non : RepW K o w H .non .none []
 | bl (b : Bool) : RepW K o w H (.bl b) (.bool b) []
 | int (i : Int) : RepW K o w H (.int i) (.int i) []
 | str (x : Str) : PyData.strOk x = true → x.length ≤ sizeLine → RepW K o w H (.str x) (.str x) []
 | lst (a : Addr) (vs : List V) (ds : List D) (as : List Addr) : o a = some w → H a = some (.lst vs) → vs.length ≤ sizeLine → RepWs K o w H vs ds as → RepW K o w H (.ref a) (.list ds) (a :: as)
 | tup (a : Addr) (vs : List V) (ds : List D) (as : List Addr) : SqT K H a vs → vs.length ≤ sizeLine → RepWs K o w H vs ds as → RepW K o w H (.ref a) (.tuple ds) as
inductive RepWs (K : PySem.W.Frag) (o : Gh) (w : Ow) (H : Hp) : List V → List D → List Addr → Prop
 | nil : RepWs K o w H [] [] []
 | cons (v : V) (d : D) (vs : List V) (ds : List D) (as bs : List Addr) : RepW K o w H v d as → RepWs K o w H vs ds bs → RepWs K o w H (v :: vs) (d :: ds) (as ++ bs)
end
section
variable {K : PySem.W.Frag} {o o' : Gh} {H H' : Hp} {w w' : Ow}
mutual
theorem RepW.move (hl : ∀ a u, H a = some u → o a = some w → H' a = some u ∧ o' a = some w') (ht : ∀ a vs, SqT K H a vs → SqT K H' a vs) : ∀ {v : V} {d : D} {as : List Addr}, RepW K o w H v d as → RepW K o' w' H' v d as
 | _, _, _, .non => .non
 | _, _, _, .bl b => .bl b
 | _, _, _, .int i => .int i
 | _, _, _, .str x h1 h2 => .str x h1 h2
 | _, _, _, .lst a vs ds as h1 h2 h3 h4 => .lst a vs ds as (hl a _ h2 h1).2 (hl a _ h2 h1).1 h3 (RepWs.move hl ht h4)
 | _, _, _, .tup a vs ds as h1 h2 h3 => .tup a vs ds as (ht a _ h1) h2 (RepWs.move hl ht h3)
theorem RepWs.move (hl : ∀ a u, H a = some u → o a = some w → H' a = some u ∧ o' a = some w') (ht : ∀ a vs, SqT K H a vs → SqT K H' a vs) : ∀ {vs : List V} {ds : List D} {as : List Addr}, RepWs K o w H vs ds as → RepWs K o' w' H' vs ds as
 | _, _, _, .nil => .nil
 | _, _, _, .cons v d vs ds as bs h1 h2 => .cons v d vs ds as bs (RepW.move hl ht h1) (RepWs.move hl ht h2)
end
mutual
theorem RepW.rep (hn : ∀ a, o a = some w → o' a = none) : ∀ {v : V} {d : D} {as : List Addr}, RepW K o w H v d as → Rep K o' H v d
 | _, _, _, .non => .non
 | _, _, _, .bl b => .bl b
 | _, _, _, .int i => .int i
 | _, _, _, .str x h1 h2 => .str x h1 h2
 | _, _, _, .lst a vs ds as h1 h2 h3 h4 => .lst a vs ds h2 (hn a h1) h3 (RepWs.rep hn h4)
 | _, _, _, .tup a vs ds as h1 h2 h3 => .tup a vs ds h1 h2 (RepWs.rep hn h3)
theorem RepWs.rep (hn : ∀ a, o a = some w → o' a = none) : ∀ {vs : List V} {ds : List D} {as : List Addr}, RepWs K o w H vs ds as → RepAll K o' H vs ds
 | _, _, _, .nil => .nil
 | _, _, _, .cons v d vs ds as bs h1 h2 => .cons v d vs ds (RepW.rep hn h1) (RepWs.rep hn h2)
end
end
def recNames : List Str := ["job", "lines", "ahead", "undone"]
def FdR (K : PySem.W.Frag) (o : Gh) (H : Hp) (u : Option V) : Option D → Prop
 | none => u = none
 | some d => ∃ v, u = some v ∧ Rep K o H v d
def FlR (K : PySem.W.Frag) (o : Gh) (H : Hp) (w : Ow) (u : Option V) : Option (List D) → Prop
 | none => u = none
 | some xs => ∃ b vs, u = some (.ref b) ∧ o b = some w ∧ H b = some (.lst vs) ∧ vs.length ≤ sizeLine ∧ RepAll K o H vs xs
structure RecR (K : PySem.W.Frag) (o : Gh) (H : Hp) (w : Ow) (fv : Str → Option V) (v : DskV) : Prop where
 job : FdR K o H (fv "job") v.job
 lines : FdR K o H (fv "lines") v.lines
 ahead : FlR K o H w (fv "ahead") v.ahead
 undone : FlR K o H w (fv "undone") v.undone
 two : ∀ b, fv "ahead" = some (.ref b) → fv "undone" ≠ some (.ref b)
def RecB (K : PySem.W.Frag) (H : Hp) (a : Addr) (fv : Str → Option V) : Bool → Prop
 | false => ∃ dx fvs, H a = some (.ins (He.ga K "Desk") dx fvs) ∧ (∀ f, fv f = fvs.lookup f) ∧ fvs.length ≤ (recNames.filter fun f => (fv f).isSome).length
 | true => ∃ kvs : List (Key × V), H a = some (.dK kvs) ∧ (∀ f, fv f = valV kvs (.inr f)) ∧ kvs.length ≤ (recNames.filter fun f => (fv f).isSome).length
def RcsR (o : Gh) (c : Cs) (H : Hp) (w : Ow) (v : V) (b : Bool) (ns : List Nat) : Prop := ∃ (a : Addr) (as : List Addr), v = .ref a ∧ (if b = true then o a = some w else o a = none) ∧ H a = some (.lst (as.map V.ref)) ∧ as.length ≤ sizeLine ∧ as.length = ns.length ∧ ∀ (i n x : Nat), ns[i]? = some n → as[i]? = some x → c[n]? = some x
theorem RcsR.move {o o' : Gh} {c c' : Cs} {H H' : Hp} {w w' : Ow} {v : V} {b : Bool} {ns : List Nat} (h1 : ∀ a u, H a = some u → o a = some w → H' a = some u ∧ o' a = some w') (h0 : Kept o H o' H') (hc : ∀ (n x : Nat), c[n]? = some x → c'[n]? = some x) (r : RcsR o c H w v b ns) : RcsR o' c' H' w' v b ns := by
 obtain ⟨a, as, e, q, h, z, l, f⟩ := r
 cases b with
 | true =>
  have q' : o a = some w := q
  exact ⟨a, as, e, (h1 a _ h q').2, (h1 a _ h q').1, z, l, fun i n x e1 e2 => hc _ _ (f i n x e1 e2)⟩
 | false =>
  have q' : o a = none := q
  exact ⟨a, as, e, (h0 a _ h q').2, (h0 a _ h q').1, z, l, fun i n x e1 e2 => hc _ _ (f i n x e1 e2)⟩
theorem RcsR.free {o o' : Gh} {c : Cs} {H : Hp} {w w' : Ow} {v : V} {b : Bool} {ns : List Nat} (un : ∀ a, o a = some w → o' a = none) (h0 : Kept o H o' H) (r : RcsR o c H w v b ns) : RcsR o' c H w' v false ns := by
 obtain ⟨a, as, e, q, h, z, l, f⟩ := r
 cases b with
 | true => exact ⟨a, as, e, un a q, h, z, l, f⟩
 | false => exact ⟨a, as, e, (h0 a _ h q).2, h, z, l, f⟩
def RepT (K : PySem.W.Frag) (o : Gh) (c : Cs) (H : Hp) (w : Ow) (v : V) : T → Prop
 | .val d => Rep K o H v d
 | .own xs => ∃ a vs, v = .ref a ∧ o a = some w ∧ H a = some (.lst vs) ∧ vs.length ≤ sizeLine ∧ RepAll K o H vs xs
 | .own2 xss => ∃ (a : Addr) (as : List Addr), v = .ref a ∧ o a = some w ∧ H a = some (.lst (as.map V.ref)) ∧ (a :: as).Nodup ∧ as.length ≤ sizeLine ∧ as.length = xss.length ∧
   ∀ (i : Nat) (b : Addr) (xs : List D), as[i]? = some b → xss[i]? = some xs → o b = some w ∧ ∃ vs, H b = some (.lst vs) ∧ vs.length ≤ sizeLine ∧ RepAll K o H vs xs
 | .ownd q kvs => ∃ a ks vs ds, v = .ref a ∧ o a = some w ∧ DAtW K q H a ks vs ∧ vs.length ≤ sizeLine ∧ ks.length = vs.length ∧ RepAll K o H vs ds ∧ kvs = ks.zip ds
 | .cel n => ∃ a, c[n]? = some a ∧ v = .ref a
 | .scr ns => ∃ a, v = .ref a ∧ ns.length ≤ sizeLine ∧ ((∃ ob, H a = some (.frz ob (.lst (ns.map V.int)))) ∨ (H a = some (.lst (ns.map V.int)) ∧ o a = none) ∨
   ∃ (ob : Obj) (its : Array Value) (n : Nat), K.lookup a = some ob ∧ ob.cls = .type "list" ∧ ob.dict = none ∧ ob.data = .seq its n ∧ its.size ≤ sizeLine ∧ Vals (ns.map V.int) its.toList)
 | .exn a C d e => v = .ref a ∧ PySem.W.nsIn K mainGlobals e.cls = some (some (.ref C)) ∧ FldR H d e
 | .tree d => ∃ as, RepW K o w H v d as ∧ as.Nodup
 | .rof b u => ∃ (a : Addr) (fv : Str → Option V), v = .ref a ∧ o a = some .seen ∧ RecB K H a fv b ∧ (∀ f, f ∉ recNames → fv f = none) ∧ RecR K o H .seen fv u
 | .recs b ns => RcsR o c H w v b ns
def c1l (K : PySem.W.Frag) : Addr := (He.cT K ("named", none)).2
def c18 : Str := "named.<locals>.<lambda>"
def CellR (K : PySem.W.Frag) (o : Gh) (H : Hp) (n : Nat) (a : Addr) : Ce → Prop
 | .dead => True
 | .lst xs => o a = some (.cell n) ∧ ∃ vs, H a = some (.lst vs) ∧ vs.length ≤ sizeLine ∧ RepAll K o H vs xs
 | .dct q kvs => o a = some (.cell n) ∧ ∃ ks vs ds, DAtW K q H a ks vs ∧ vs.length ≤ sizeLine ∧ ks.length = vs.length ∧ RepAll K o H vs ds ∧ kvs = ks.zip ds
 | .tab => a = c1l K ∧ o a = some (.cell n) ∧ ∃ ps : Array Value, H a = some (.tbl ps) ∧ TriplesOk ps.toList ∧ ∀ (pos : Pos) (cv : Value), codeAmong pos ps.toList = some cv → ∃ b, cv = .ref b ∧ H b = some (LamX.CodeO b c18) ∧ o b = some (.cell n)
 | .rcd b v => o a = some (.cell n) ∧ ∃ fv : Str → Option V, RecB K H a fv b ∧ (∀ f, f ∉ recNames → fv f = none) ∧ RecR K o H (.cell n) fv v
structure CS (K : PySem.W.Frag) (o : Gh) (c : Cs) (S : Sto) (H : Hp) : Prop where
 clen : c.length = S.length
 cell : ∀ n a k, c[n]? = some a → S[n]? = some k → CellR K o H n a k
 trk : Trk o H
structure RS (K : PySem.W.Frag) (o : Gh) (c : Cs) (ρ : En) (S : Sto) (σ : L2.St) (H : Hp) : Prop where
 len : ρ.length = σ.length
 slot : ∀ i t, ρ[i]? = some (some t) → ∃ v, σ[i]? = some (some v) ∧ RepT K o c H (.slot i) v t
 cs : CS K o c S H
def NT (o : Gh) : Prop := ∀ a, o a ≠ some .tmp
def c9 : Ow → Prop
 | .cell _ => True
 | _ => False
def A0 : Ow → Prop
 | .prot => False
 | .seen => False
 | _ => True
structure Step (vol : Ow → Prop) (o : Gh) (c : Cs) (H : Hp) (o' : Gh) (c' : Cs) (H' : Hp) : Prop where
 keep : ∀ a u, H a = some u → (∀ w, o a = some w → ¬ vol w) → H' a = some u
 own : ∀ a w, o a = some w → ¬ vol w → o' a = some w
 new : ∀ a, o a = none → o' a ≠ none → H a = none
 pre : c <+: c'
section
variable {K : PySem.W.Frag} {o o1 o2 o' : Gh} {c c1 c2 c' : Cs} {H H1 H2 H' : Hp} {vol : Ow → Prop} {ρ : En} {S : Sto} {σ : L2.St} {v : V} {t : T} {w : Ow}
theorem Step.refl : Step vol o c H o c H := ⟨fun _ _ h _ => h, fun _ _ h _ => h, fun _ h h' => absurd h h', List.prefix_refl c⟩
theorem Step.trans (a : Step vol o c H o1 c1 H1) (b : Step vol o1 c1 H1 o2 c2 H2) : Step vol o c H o2 c2 H2 where
 keep := fun x u e n => by
  refine b.keep x u (a.keep x u e n) fun w hw hv => ?_
  cases q : o x with
  | none =>
   have := a.new x q (by rw [hw]; simp)
   rw [this] at e; cases e
  | some w' =>
   have h' := a.own x w' q (n w' q)
   rw [hw] at h'; cases h'
   exact n w q hv
 own := fun x w e n => b.own x w (a.own x w e n) n
 new := fun x e n => by
  cases q : o1 x with
  | none =>
   have h2 := b.new x q n
   cases r : H x with
   | none => rfl
   | some u =>
    have := a.keep x u r (fun w hw => by rw [e] at hw; cases hw)
    rw [h2] at this; cases this
  | some w' => exact a.new x e (by rw [q]; simp)
 pre := a.pre.trans b.pre
theorem Step.weak (a : Step c9 o c H o1 c1 H1) : Step A0 o c H o1 c1 H1 where
 keep := fun x u e n => a.keep x u e fun w hw hv => n w hw (by cases w <;> first | exact trivial | exact hv.elim)
 own := fun x w e n => a.own x w e fun hv => n (by cases w <;> first | exact trivial | exact hv.elim)
 new := a.new
 pre := a.pre
theorem Step.kept (a : Step vol o c H o1 c1 H1) : Kept o H o1 H1 := fun x u e n => by
 have h1 := a.keep x u e (fun w hw => by rw [n] at hw; cases hw)
 refine ⟨h1, ?_⟩
 cases q : o1 x with
 | none => rfl
 | some w' =>
  have := a.new x n (by rw [q]; simp)
  rw [this] at e; cases e
theorem a1N {c c' : Cs} (h : c <+: c') {n : Nat} {a : Addr} (e : c[n]? = some a) : c'[n]? = some a := by
 obtain ⟨r, rfl⟩ := h
 have hl := (List.getElem?_eq_some_iff.mp e).1
 rw [List.getElem?_append_left hl]
 exact e
theorem Rep.step (tr : Trk o H) (a : Step vol o c H o1 c1 H1) {d : D} (r : Rep K o H v d) : Rep K o1 H1 v d := r.kept tr a.kept
theorem RepAll.step (tr : Trk o H) (a : Step vol o c H o1 c1 H1) {vs : List V} {ds : List D} (r : RepAll K o H vs ds) : RepAll K o1 H1 vs ds := r.kept tr a.kept
theorem FdR.moved {o' : Gh} {H' : Hp} {u : Option V} {d : Option D} (tr : Trk o H) (k : Kept o H o' H') (r : FdR K o H u d) : FdR K o' H' u d := by
 cases d with
 | none => exact r
 | some d =>
  obtain ⟨v, e, q⟩ := r
  exact ⟨v, e, q.kept tr k⟩
theorem FlR.moved {o' : Gh} {H' : Hp} {w w' : Ow} {u : Option V} {d : Option (List D)} (tr : Trk o H) (k : Kept o H o' H') (hc : ∀ b, o b = some w → o' b = some w' ∧ ∀ x, H b = some x → H' b = some x) (r : FlR K o H w u d) : FlR K o' H' w' u d := by
 cases d with
 | none => exact r
 | some d =>
  obtain ⟨b, vs, e, q1, q2, q3, q4⟩ := r
  exact ⟨b, vs, e, (hc b q1).1, (hc b q1).2 _ q2, q3, q4.kept tr k⟩
theorem RecR.movedH {o' : Gh} {H' : Hp} {w w' : Ow} {fv : Str → Option V} {v : DskV} (tr : Trk o H) (k : Kept o H o' H') (hc : ∀ b, o b = some w → o' b = some w' ∧ ∀ x, H b = some x → H' b = some x) (r : RecR K o H w fv v) : RecR K o' H' w' fv v :=
 ⟨r.job.moved tr k, r.lines.moved tr k, r.ahead.moved tr k hc, r.undone.moved tr k hc, r.two⟩
theorem RecR.moved {o' : Gh} {w w' : Ow} {fv : Str → Option V} {v : DskV} (tr : Trk o H) (k : Kept o H o' H) (hc : ∀ b, o b = some w → o' b = some w') (r : RecR K o H w fv v) : RecR K o' H w' fv v :=
 r.movedH tr k fun b q => ⟨hc b q, fun _ z => z⟩
theorem RecB.moved {H' : Hp} {a : Addr} {fv : Str → Option V} {b : Bool} (hk : ∀ x, H a = some x → H' a = some x) (r : RecB K H a fv b) : RecB K H' a fv b := by
 cases b with
 | false =>
  obtain ⟨dx, fvs, e, q⟩ := r
  exact ⟨dx, fvs, hk _ e, q⟩
 | true =>
  obtain ⟨kvs, e, q⟩ := r
  exact ⟨kvs, hk _ e, q⟩
theorem RepT.step (tr : Trk o H) (a : Step vol o c H o1 c1 H1) (hw : ¬ vol w) (r : RepT K o c H w v t) (hp : ¬ vol .seen := by exact fun z => z) : RepT K o1 c1 H1 w v t := by
 have kp : ∀ x u, H x = some u → o x = some w → H1 x = some u := fun x u e q => a.keep x u e fun w' q' => by
  rw [q] at q'; cases q'; exact hw
 cases t with
 | val d => exact Rep.step tr a r
 | own xs =>
  obtain ⟨x, vs, e, q, h, z, ra⟩ := r
  exact ⟨x, vs, e, a.own _ _ q hw, kp _ _ h q, z, ra.step tr a⟩
 | own2 xss =>
  obtain ⟨x, as, e, q, h, nd, z, le, f⟩ := r
  refine ⟨x, as, e, a.own _ _ q hw, kp _ _ h q, nd, z, le, fun i b xs e1 e2 => ?_⟩
  obtain ⟨q', vs, h', z', ra⟩ := f i b xs e1 e2
  exact ⟨a.own _ _ q' hw, vs, kp _ _ h' q', z', ra.step tr a⟩
 | ownd tk kvs =>
  obtain ⟨x, ks, vs, ds, e, q, h, z, z2, ra, e'⟩ := r
  exact ⟨x, ks, vs, ds, e, a.own _ _ q hw, h.kept (fun u hu => kp _ _ hu q) (fun b us zz => SqT.kept tr a.kept zz), z, z2, ra.step tr a, e'⟩
 | cel n =>
  obtain ⟨x, e, q⟩ := r
  exact ⟨x, a1N a.pre e, q⟩
 | scr ns =>
  obtain ⟨x, e, z, h⟩ := r
  refine ⟨x, e, z, ?_⟩
  rcases h with ⟨ob, h⟩ | ⟨h, n⟩ | h
  ·exact .inl ⟨ob, (a.kept _ _ h (tr.free h (fun z => z))).1⟩
  ·exact .inr (.inl (a.kept _ _ h n))
  ·exact .inr (.inr h)
 | exn x C d e => exact ⟨r.1, r.2.1, r.2.2.kept tr a.kept⟩
 | tree d =>
  obtain ⟨as, r, nd⟩ := r
  exact ⟨as, r.move (fun x u e q => ⟨kp _ _ e q, a.own _ _ q hw⟩) (fun b us z => SqT.kept tr a.kept z), nd⟩
 | rof b u =>
  obtain ⟨x, fv, e, q, h1, h2, h3⟩ := r
  have kq : ∀ b, o b = some .seen → o1 b = some .seen ∧ ∀ x, H b = some x → H1 b = some x := fun b e => ⟨a.own _ _ e hp, fun x hx => a.keep _ x hx fun w' q' => by
   rw [e] at q'; cases q'; exact hp⟩
  exact ⟨x, fv, e, (kq _ q).1, h1.moved (kq _ q).2, h2, h3.movedH tr a.kept kq⟩
 | recs b ns => exact RcsR.move (fun x u e q => ⟨kp _ _ e q, a.own _ _ q hw⟩) a.kept (fun _ _ e => a1N a.pre e) r
theorem RS.step {S' : Sto} (r : RS K o c ρ S σ H) (a : Step c9 o c H o1 c1 H1) (q : CS K o1 c1 S' H1) : RS K o1 c1 ρ S' σ H1 :=
 ⟨r.len, fun i t e => by
  obtain ⟨v, e1, e2⟩ := r.slot i t e
  exact ⟨v, e1, e2.step r.cs.trk a (fun z => z)⟩, q⟩

def q7 (p : Ow → Bool) (o : Gh) : Gh := fun a => match o a with
 | some w => if p w then none else some w
 | none => none
theorem l9 {p : Ow → Bool} {a : Addr} (h : o a = none) : q7 p o a = none := by unfold q7; rw [h]
theorem d4 {p : Ow → Bool} {a : Addr} {w : Ow} (h : o a = some w) (n : p w = false) : q7 p o a = some w := by unfold q7; rw [h]; simp [n]
theorem E9 {p : Ow → Bool} {a : Addr} {w : Ow} (h : q7 p o a = some w) : o a = some w ∧ p w = false := by
 unfold q7 at h
 split at h
 ·rename_i w' e
  split at h
  ·cases h
  ·cases h
   exact ⟨e, by simpa using ‹¬ p _ = true›⟩
 ·cases h
theorem L4 {p : Ow → Bool} {a : Addr} (h : q7 p o a ≠ none) : o a ≠ none := by
 intro e
 exact h (l9 e)
theorem j4 {p : Ow → Bool} : Kept o H (q7 p o) H := fun a u e n => ⟨e, l9 n⟩
theorem Trk.drop {p : Ow → Bool} (tr : Trk o H) : Trk (q7 p o) H := fun a h => tr a (L4 h)
theorem RepT.drop {p : Ow → Bool} (tr : Trk o H) (n : p w = false) (r : RepT K o c H w v t) (hp : p .seen = false := by rfl) : RepT K (q7 p o) c H w v t := by
 cases t with
 | val d => exact Rep.kept tr j4 r
 | own xs =>
  obtain ⟨x, vs, e, q, h, z, ra⟩ := r
  exact ⟨x, vs, e, d4 q n, h, z, ra.kept tr j4⟩
 | own2 xss =>
  obtain ⟨x, as, e, q, h, nd, z, le, f⟩ := r
  refine ⟨x, as, e, d4 q n, h, nd, z, le, fun i b xs e1 e2 => ?_⟩
  obtain ⟨q', vs, h', z', ra⟩ := f i b xs e1 e2
  exact ⟨d4 q' n, vs, h', z', ra.kept tr j4⟩
 | ownd tk kvs =>
  obtain ⟨x, ks, vs, ds, e, q, h, z, z2, ra, e'⟩ := r
  exact ⟨x, ks, vs, ds, e, d4 q n, h, z, z2, ra.kept tr j4, e'⟩
 | cel n => exact r
 | scr ns =>
  obtain ⟨x, e, z, h⟩ := r
  refine ⟨x, e, z, ?_⟩
  rcases h with h | ⟨h, n⟩ | h
  ·exact .inl h
  ·exact .inr (.inl ⟨h, l9 n⟩)
  ·exact .inr (.inr h)
 | exn x C d e => exact r
 | tree d =>
  obtain ⟨as, r, nd⟩ := r
  exact ⟨as, r.move (fun x u e q => ⟨e, d4 q n⟩) (fun _ _ z => z), nd⟩
 | rof b u =>
  obtain ⟨x, fv, e, q, h1, h2, h3⟩ := r
  exact ⟨x, fv, e, d4 q hp, h1, h2, h3.moved tr j4 fun b e => d4 e hp⟩
 | recs b ns => exact RcsR.move (fun x u e q => ⟨e, d4 q n⟩) j4 (fun _ _ e => e) r
theorem CS.drop {p : Ow → Bool} (n : ∀ i, p (.cell i) = false) (r : CS K o c S H) : CS K (q7 p o) c S H :=
 ⟨r.clen, fun i a k e1 e2 => by
  have q := r.cell i a k e1 e2
  cases k with
  | dead => trivial
  | lst xs =>
   obtain ⟨q1, vs, q2, q3, q4⟩ := q
   exact ⟨d4 q1 (n i), vs, q2, q3, q4.kept r.trk j4⟩
  | dct tk kvs =>
   obtain ⟨q1, ks, vs, ds, q2, q3, q5, q4, q6⟩ := q
   exact ⟨d4 q1 (n i), ks, vs, ds, q2, q3, q5, q4.kept r.trk j4, q6⟩
  | tab =>
   obtain ⟨q0, q1, ps, q2, q3, q4⟩ := q
   exact ⟨q0, d4 q1 (n i), ps, q2, q3, fun pos cv e => by
    obtain ⟨b, e1, e2, e3⟩ := q4 pos cv e
    exact ⟨b, e1, e2, d4 e3 (n i)⟩⟩
  | rcd b v =>
   obtain ⟨q0, fv, q1, q2, q3⟩ := q
   exact ⟨d4 q0 (n i), fv, q1, q2, q3.moved r.trk j4 fun b q => d4 q (n i)⟩, r.trk.drop⟩
def a8Q : Ow → Bool
 | .tmp => true
 | _ => false
abbrev unT (o : Gh) : Gh := q7 a8Q o
theorem B7 : NT (unT o) := fun a h => by
 have := (E9 h).2
 simp [a8Q] at this
theorem RS.untmp (r : RS K o c ρ S σ H) : RS K (unT o) c ρ S σ H :=
 ⟨r.len, fun i t e => by
  obtain ⟨v, e1, e2⟩ := r.slot i t e
  exact ⟨v, e1, e2.drop r.cs.trk rfl⟩, r.cs.drop fun _ => rfl⟩
theorem Step.untmp (nt : NT o) (a : Step vol o c H o1 c1 H1) : Step vol o c H (unT o1) c1 H1 where
 keep := a.keep
 own := fun x w e n => d4 (a.own x w e n) (by cases w <;> first | rfl | exact absurd e (nt x))
 new := fun x e n => a.new x e (L4 n)
 pre := a.pre
theorem RepT.toD {d : D} (tr : Trk o H) (r : RepT K o c H .tmp v t) (e : asD t = some d) : Rep K (unT o) H v d := by
 have un : ∀ a, o a = some .tmp → unT o a = none := fun a h => by unfold unT q7; rw [h]; rfl
 cases t with
 | val d' => cases e; exact Rep.kept tr j4 r
 | own xs =>
  cases e
  obtain ⟨x, vs, rfl, q, h, z, ra⟩ := r
  exact .lst x vs _ h (un _ q) z (ra.kept tr j4)
 | own2 xss =>
  cases e
  obtain ⟨x, as, rfl, q, h, nd, z, le, f⟩ := r
  refine .lst x _ _ h (un _ q) (by rw [List.length_map]; exact z) ?_
  clear h nd z q
  induction as generalizing xss with
  | nil =>
   cases xss with
   | nil => exact .nil
   | cons _ _ => simp at le
  | cons b as ih =>
   cases xss with
   | nil => simp at le
   | cons xs xss =>
    obtain ⟨q', vs, h', z', ra⟩ := f 0 b xs rfl rfl
    refine .cons _ _ _ _ (.lst b vs xs h' (un _ q') z' (ra.kept tr j4)) (ih xss (by simpa using le) fun i b' xs' e1 e2 => f (i + 1) b' xs' (by simpa using e1) (by simpa using e2))
 | ownd tk kvs =>
  cases e
  obtain ⟨x, ks, vs, ds, rfl, q, h, z, z2, ra, rfl⟩ := r
  exact .dct tk x ks vs ds _ h.r (un _ q) z z2 (ra.kept tr j4) rfl
 | cel n => cases e
 | scr ns => cases e
 | exn _ _ _ _ => cases e
 | tree d' =>
  cases e
  obtain ⟨as, r, nd⟩ := r
  exact r.rep un
 | rof _ _ => cases e
 | recs _ _ => cases e
theorem RepT.toA (tr : Trk o H) (r : RepT K o c H .tmp v t) : RepT K (unT o) c H w v (asA t) := by
 cases t with
 | val d' => exact RepT.toD (t := .val d') tr r rfl
 | own xs => exact RepT.toD (t := .own xs) tr r rfl
 | own2 xss => exact RepT.toD (t := .own2 xss) tr r rfl
 | ownd q kvs => exact RepT.toD (t := .ownd q kvs) tr r rfl
 | cel n => exact r
 | scr ns => exact RepT.drop (c := c) (w := .prot) (t := .scr ns) tr rfl r
 | exn _ _ _ _ => exact r
 | tree d => exact RepT.toD (t := .tree d) tr r rfl
 | rof b u =>
  obtain ⟨x, fv, e, q, h1, h2, h3⟩ := r
  exact ⟨x, fv, e, d4 q rfl, h1, h2, h3.moved tr j4 fun b e => d4 e rfl⟩
 | recs b ns => exact RcsR.free (fun a h => by unfold unT q7; rw [h]; rfl) j4 r
end
end BV
namespace BV
open PySem L2

structure a4f where
 a : Addr
 C : Addr
 d : Option Addr
def Zg : Bool → Value → Option Addr → Obj → Prop
 | true => L2N.Zn
 | false => Zc
theorem Zg.zc {cn : Bool} {cls : Value} {d : Option Addr} {o : Obj} (h : Zg cn cls d o) : Zc cls d o := by
 cases cn with
 | true => exact L2N.Zn.zc h
 | false => exact h
def XEg (cn : Bool) (X : Cx) (W : WX) (u : Value) (t : Shared) : Prop :=
 ∃ (a : Addr) (B : Heap) (sI : Shared) (pins : List (Addr × Obj)) (σ : L2.St) (H : Hp) (cls : Value) (d : Option Addr), u = .ref a ∧ Inv X pins σ H sI ∧ (∀ b o, sI.heap.get? b = some o → b ∉ frs X.stack → B.get? b = some o) ∧
  sI.heap.UpToSlots t.heap ∧ Sky B X.stack a (Zg cn cls d) X.env.locals t.heap ∧ H a = none ∧ t.os = sI.os ∧ PyProof.Rows.AllBare t.gens ∧ W cls d σ H
def Tk (cn : Bool) (X : Cx) (W : WX) : Prop := ∀ u t, XEg cn X W u t → X.xe u t
abbrev CXg : Bool → Program → World → CXT
 | true, P, w => L2N.CX P w
 | false, P, w => L2.CX P w
theorem b4C {B : Heap} {l : List PySem.Env} {a : Addr} {Z Z' : Obj → Prop} {L : Addr} {h : Heap} (z : ∀ o, Z o → Z' o) (x : Sky B l a Z L h) : Sky B l a Z' L h := by
 have tz : ∀ {fl : Value}, HandSPX.TracedZ h B a Z fl → HandSPX.TracedZ h B a Z' fl := fun ⟨oe, vs, T, oT, ts, he, hz, r⟩ => ⟨oe, vs, T, oT, ts, he, z _ hz, r⟩
 rcases x with ⟨h1, h2, h3, oe, vs, h4, h5, r⟩ | ⟨h1, h2, h3, h4⟩ | ⟨h1, h2, h3, h4⟩
 ·exact .inl ⟨h1, h2, h3, oe, vs, h4, z _ h5, r⟩
 ·exact .inr (.inl ⟨h1, h2, h3, tz h4⟩)
 ·exact .inr (.inr ⟨h1, h2, h3, tz h4⟩)
theorem Tk.any {cn : Bool} {X : Cx} {W : WX} (t : Tk false X W) : Tk cn X W := fun u s ⟨a, B, sI, pins, σ, H, cls, d, e, I, nb, up, sky, na, os, ag, w⟩ =>
 t u s ⟨a, B, sI, pins, σ, H, cls, d, e, I, nb, up, b4C (fun _ z => z.zc) sky, na, os, ag, w⟩
theorem Tk.n {cn : Bool} {X : Cx} {W : WX} (t : Tk cn X W) : L2N.Takes X W := by
 cases cn with
 | true => exact t
 | false => exact t.any (cn := true)
theorem Tk.no {cn : Bool} {X : Cx} : Tk cn X (fun _ _ _ _ => False) := fun _ _ ⟨_, _, _, _, _, _, _, _, _, _, _, _, _, _, _, _, q⟩ => q.elim
theorem b3K {cn : Bool} {X : Cx} {W : WX} (tk : Tk cn X W) (σ : L2.St) : PassesAt (CXg cn X.prog X.w) X σ (WE W σ) := by
 cases cn with
 | true => exact L2N.passAt (show L2N.Takes X W from tk) σ
 | false => exact L2.passAt (show L2.Takes X W from tk) σ
def c1i (A : Around) (p : Addr × Obj) : Prop := A.handled = some (.ref p.1) ∧ ∃ vs : Array Value, p.2.data = .fields vs
structure Cc where
 P : Program
 w : World
 K : PySem.W.Frag
 mg : Str → Option Value
 base : Heap
 N : List Str
 sc : Scope
 fn : Str → Bool
 k : Nat
 top : Bool
 hot : Option a4f
 cn : Bool
 raw : Bool
 cod : Option (Addr × Str)
abbrev Cc.blk (G : Cc) (scope : Scope) : Cc := { G with sc := relS scope G.sc, fn := fun x => scope.names.lookup x == some .cell, top := false, raw := false, cod := none }
structure Cc.Ok (G : Cc) (X : Cx) (W : WX) : Prop where
 P : X.prog = G.P
 w : X.w = G.w
 K : X.K = G.K
 mg : X.mg = G.mg
 base : X.base = G.base
 N : X.N = G.N
 sc : X.env.scope = G.sc
 fn : X.fn = G.fn
 calm : G.hot = none → X.calm = true
 room : L2H.RoomH G.k X.A
 tk : Tk G.cn X W
 po : PassesOwn (model X.prog X.w) X.A X.env X.xe
 hd : G.hot = none → X.A.handled = none
 top : G.top = true → X.stack = X.env :: X.outer ∧ X.env.frame = some X.env.locals
 held : ∀ h, G.hot = some h → ∃ oe : Obj, c1i X.A (h.a, oe) ∧ (h.a, oe) ∈ X.pn ∧ Zc (.ref h.C) h.d oe ∧ ∃ vs, oe.data = .fields vs
 pat : G.raw = true → ∀ hd : Option Value, PassesOwnAt (model X.prog X.w) (X.A.mark hd) X.A X.env X.xe
 cod : ∀ c q, G.cod = some (c, q) → X.env.code = .ref c ∧ X.env.qual = q
theorem Cc.Ok.units {G : Cc} {X : Cx} {W : WX} (k : G.Ok X W) : X.A.units + 64 < cLine := by have := k.room.un; omega
theorem Cc.Ok.room0 {G : Cc} {X : Cx} {W : WX} (k : G.Ok X W) (hc : G.hot = none) : Room G.k X.A := ⟨k.hd hc, k.room.dp, k.room.un⟩
def b1f (mg : Str → Option Value) (H : Hp) (cls : Value) (d : Option Addr) (e : Exc) : Prop :=
 ∃ C, cls = .ref C ∧ mg e.cls = some (.ref C) ∧ match e.fld with
  | none => d = none
  | some (f, dv) => ∃ dd v, d = some dd ∧ vE dv = some v ∧ H dd = some (.xd [(f, v)])
def PostE (G : Cc) (W : WX) (o : Gh) (c : Cs) (ρ : En) (σ : L2.St) (H : Hp) (r : R T) (Q : VK) : Prop := match r with
 | .ok t S' => ∀ v o' c' H', Step c9 o c H o' c' H' → RS G.K o' c' ρ S' σ H' → RepT G.K o' c' H' .tmp v t → Q v H'
 | .exc e S' => ∀ cls d o' c' H', Step c9 o c H o' c' H' → RS G.K o' c' ρ S' σ H' → NT o' → b1f G.mg H' cls d e → W cls d σ H'
 | .bad => False
def ER (G : Cc) (W : WX) (t : TE) (f : SE) : Prop := ∀ (σ : L2.St) (H : Hp) (ρ : En) (S : Sto) (o : Gh) (c : Cs) (Q : VK), NT o → RS G.K o c ρ S σ H → PostE G W o c ρ σ H (f ρ S) Q → t σ H Q
def EV (G : Cc) (e : Expr) (f : SE) : Prop := ∃ t : WX → TE, (∀ X W, G.Ok X W → PE X e (t W)) ∧ ∀ W, ER G W (t W) f
section
variable {G : Cc} {W : WX} {o o1 : Gh} {c c1 : Cs} {ρ : En} {σ : L2.St} {H H1 : Hp} {r : R T} {Q : VK} {e : Expr} {f g : SE} {t : TE}
theorem PostE.step (a : Step c9 o c H o1 c1 H1) (h : PostE G W o c ρ σ H r Q) : PostE G W o1 c1 ρ σ H1 r Q := by
 cases r with
 | ok t S' => exact fun v o' c' H' s => h v o' c' H' (a.trans s)
 | exc e S' => exact fun cls d o' c' H' s => h cls d o' c' H' (a.trans s)
 | bad => exact h
theorem ER.d (h : ER G W t f) {S : Sto} {k : D → Sto → R T} {Q Q0 : VK} (nt : NT o) (rs : RS G.K o c ρ S σ H) (p : PostE G W o c ρ σ H (R.d (f ρ S) k) Q0)
  (q : ∀ d S1 v o1 c1 H1, Step c9 o c H o1 c1 H1 → NT o1 → RS G.K o1 c1 ρ S1 σ H1 → Rep G.K o1 H1 v d → PostE G W o1 c1 ρ σ H1 (k d S1) Q0 → Q v H1) : t σ H Q := by
 refine h σ H ρ S o c Q nt rs ?_
 cases e : f ρ S with
 | ok t S1 =>
  rw [e] at p
  intro v o' c' H' s rs' r'
  cases e2 : asD t with
  | none => exact False.elim (by rw [R.d_okn e2] at p; exact p)
  | some d =>
   have p' : PostE G W o c ρ σ H (k d S1) Q0 := by rw [R.d_oks e2] at p; exact p
   have s' := s.untmp nt
   exact q d S1 v _ c' H' s' B7 rs'.untmp (r'.toD rs'.cs.trk e2) (p'.step s')
 | exc e S1 => rw [e] at p; exact p
 | bad => rw [e] at p; exact p
end

inductive RepU (K : PySem.W.Frag) (o : Gh) (H : Hp) : V → D → Prop
 | of (v : V) (d : D) : Rep K o H v d → RepU K o H v d
 | lst (a : Addr) (vs : List V) (ds : List D) : H a = some (.lst vs) → (∀ w, o a = some w → ¬ c9 w) → vs.length ≤ sizeLine → RepAll K o H vs ds → RepU K o H (.ref a) (.list ds)
 | dct (q : Bool) (a : Addr) (ks : List D) (vs : List V) (ds : List D) (kvs : List (D × D)) : DAt K q H a ks vs → (∀ w, o a = some w → ¬ c9 w) → vs.length ≤ sizeLine → ks.length = vs.length → RepAll K o H vs ds → kvs = mkD q (ks.zip ds) → RepU K o H (.ref a) (.dict kvs)
section
variable {K : PySem.W.Frag} {o o1 : Gh} {c c1 : Cs} {H H1 : Hp} {v : V} {d : D}
theorem RepU.step (tr : Trk o H) (s : Step c9 o c H o1 c1 H1) (r : RepU K o H v d) : RepU K o1 H1 v d := by
 have kk : ∀ a u, H a = some u → (∀ w, o a = some w → ¬ c9 w) → ∀ w, o1 a = some w → ¬ c9 w := fun a u e n w hw => by
  cases q : o a with
  | none =>
   have := s.new a q (by rw [hw]; simp)
   rw [this] at e; cases e
  | some w' =>
   have := s.own a w' q (n w' q)
   rw [hw] at this; cases this
   exact n w q
 cases r with
 | of v d r => exact .of _ _ (r.step tr s)
 | lst a vs ds h1 h2 h3 h4 => exact .lst a vs ds (s.keep a _ h1 h2) (kk a _ h1 h2) h3 (h4.step tr s)
 | dct tk a ks vs ds kvs h1 h2 h3 h5 h4 e =>
  obtain ⟨u, hu, _⟩ := h1.is
  exact .dct tk a ks vs ds kvs (h1.kept (fun u hu => s.keep a u hu h2) fun b us z => SqT.kept tr s.kept z) (kk a u hu h2) h3 h5 (h4.step tr s) e
theorem RepU.nonV (h : RepU K o H v .none) : v = .non := by cases h with | of _ _ h => exact h.nonV
theorem RepU.blV {b : Bool} (h : RepU K o H v (.bool b)) : v = .bl b := by cases h with | of _ _ h => exact h.blV
theorem RepU.intV {i : Int} (h : RepU K o H v (.int i)) : v = .int i := by cases h with | of _ _ h => exact h.intV
theorem RepU.strV {x : Str} (h : RepU K o H v (.str x)) : v = .str x ∧ PyData.strOk x = true ∧ x.length ≤ sizeLine := by cases h with | of _ _ h => exact h.strV
theorem RepU.lstV {ds : List D} (h : RepU K o H v (.list ds)) : ∃ a vs, v = .ref a ∧ H a = some (.lst vs) ∧ (∀ w, o a = some w → ¬ c9 w) ∧ vs.length ≤ sizeLine ∧ RepAll K o H vs ds := by
 cases h with
 | of _ _ h =>
  obtain ⟨a, vs, e, h1, h2, h3, h4⟩ := h.lstV
  exact ⟨a, vs, e, h1, (fun w hw => by rw [h2] at hw; cases hw), h3, h4⟩
 | lst a vs ds h1 h2 h3 h4 => exact ⟨a, vs, rfl, h1, h2, h3, h4⟩
theorem RepU.tupV {ds : List D} (h : RepU K o H v (.tuple ds)) : ∃ a vs, v = .ref a ∧ SqT K H a vs ∧ vs.length ≤ sizeLine ∧ RepAll K o H vs ds := by cases h with | of _ _ h => exact h.tupV
theorem RepU.tupW {ds : List D} (h : RepU K o H v (.tuple ds)) : ∃ a vs, v = .ref a ∧ SqT K H a vs ∧ vs.length ≤ sizeLine ∧ RepAll K o H vs ds := by cases h with | of _ _ h => exact h.tupW
theorem RepU.dctV {kvs : List (D × D)} (h : RepU K o H v (.dict kvs)) : ∃ q a ks vs ds, v = .ref a ∧ DAt K q H a ks vs ∧ (∀ w, o a = some w → ¬ c9 w) ∧ vs.length ≤ sizeLine ∧ ks.length = vs.length ∧ RepAll K o H vs ds ∧ kvs = mkD q (ks.zip ds) := by
 cases h with
 | of _ _ h =>
  cases h with
  | dct tk a ks vs ds kvs h1 h2 h3 h5 h4 e => exact ⟨tk, a, ks, vs, ds, rfl, h1, (fun w hw => by rw [h2] at hw; cases hw), h3, h5, h4, e⟩
 | dct tk a ks vs ds kvs h1 h2 h3 h5 h4 e => exact ⟨tk, a, ks, vs, ds, rfl, h1, h2, h3, h5, h4, e⟩
theorem RepU.dp (h : RepU K o H v d) (n : E2 d = true) : Dp K H v d := by
 cases h with
 | of _ _ h => exact h.dp n
 | lst a vs ds h1 h2 h3 h4 => exact .lst (.of h1) (h4.dp n)
 | dct => exact nomatch n
theorem RepU.can (h : RepU K o H v d) (n : E2 d = true) : PyData.canLay0 d = true := by
 cases h with
 | of _ _ h => exact h.can n
 | lst a vs ds h1 h2 h3 h4 => exact h4.can n
 | dct => exact nomatch n
end
def b9X (G : Cc) (W : WX) (o : Gh) (c : Cs) (ρ : En) (σ : L2.St) (H : Hp) (r : R T) (Q : VK) : Prop := match r with
 | .ok t S' => ∃ d, asD t = some d ∧ ∀ v o' c' H', Step c9 o c H o' c' H' → NT o' → RS G.K o' c' ρ S' σ H' → RepU G.K o' H' v d → Q v H'
 | .exc e S' => ∀ cls d o' c' H', Step c9 o c H o' c' H' → RS G.K o' c' ρ S' σ H' → NT o' → b1f G.mg H' cls d e → W cls d σ H'
 | .bad => False
def URd (G : Cc) (W : WX) (t : TE) (f : SE) : Prop := ∀ (σ : L2.St) (H : Hp) (ρ : En) (S : Sto) (o : Gh) (c : Cs) (Q : VK), NT o → RS G.K o c ρ S σ H → b9X G W o c ρ σ H (f ρ S) Q → t σ H Q
theorem URd.d {G : Cc} {W : WX} {o : Gh} {c : Cs} {ρ : En} {σ : L2.St} {H : Hp} {f : SE} {t : TE} (h : URd G W t f) {S : Sto} {k : D → Sto → R T} {Q Q0 : VK} (nt : NT o) (rs : RS G.K o c ρ S σ H) (p : PostE G W o c ρ σ H (R.d (f ρ S) k) Q0)
  (q : ∀ d S1 v o1 c1 H1, Step c9 o c H o1 c1 H1 → NT o1 → RS G.K o1 c1 ρ S1 σ H1 → RepU G.K o1 H1 v d → PostE G W o1 c1 ρ σ H1 (k d S1) Q0 → Q v H1) : t σ H Q := by
 refine h σ H ρ S o c Q nt rs ?_
 cases e : f ρ S with
 | ok t S1 =>
  rw [e] at p
  cases e2 : asD t with
  | none => rw [R.d_okn e2] at p; exact p.elim
  | some d =>
   rw [R.d_oks e2] at p
   exact ⟨d, e2, fun v o' c' H' s nt' rs' r' => q d S1 v o' c' H' s nt' rs' r' (p.step s)⟩
 | exc e S1 => rw [e] at p; exact p
 | bad => rw [e] at p; exact p
def UV (G : Cc) (e : Expr) (f : SE) : Prop := ∃ t : WX → TE, (∀ X W, G.Ok X W → PE X e (t W)) ∧ ∀ W, URd G W (t W) f
theorem EV.u {G : Cc} {e : Expr} {f : SE} (h : EV G e f) : UV G e f := by
 obtain ⟨t, p, q⟩ := h
 refine ⟨t, p, fun W σ H ρ S o c Q nt rs ps => q W σ H ρ S o c Q nt rs ?_⟩
 cases e : f ρ S with
 | ok t S1 =>
  rw [e] at ps
  obtain ⟨d, e1, h⟩ := ps
  exact fun v o' c' H' s rs' r' => h v _ c' H' (s.untmp nt) B7 rs'.untmp (.of _ _ (r'.toD rs'.cs.trk e1))
 | exc e S1 => rw [e] at ps; exact ps
 | bad => rw [e] at ps; exact ps

def mkO (o : Gh) (a : Addr) (w : Ow) : Gh := fun b => if b = a then some w else o b
theorem p9 {o : Gh} {a : Addr} {w : Ow} : mkO o a w a = some w := by unfold mkO; rw [if_pos rfl]
theorem w6 {o : Gh} {a b : Addr} {w : Ow} (h : b ≠ a) : mkO o a w b = o b := by unfold mkO; rw [if_neg h]
section
variable {K : PySem.W.Frag} {o : Gh} {c : Cs} {H : Hp} {vol : Ow → Prop} {ρ : En} {S : Sto} {σ : L2.St} {v : V} {t : T} {w : Ow} {p : Addr} {u : HO}
theorem Step.laid (n : H p = none) : Step vol o c H o c (upd H p u) where
 keep := fun a x e _ => by rw [upd_ne (ne_of_none e n)]; exact e
 own := fun _ _ e _ => e
 new := fun _ e e' => absurd e e'
 pre := List.prefix_refl c
theorem Trk.laid (tr : Trk o H) (n : H p = none) : Trk o (upd H p u) := fun a h => by
 obtain ⟨x, e, q⟩ := tr a h
 exact ⟨x, by rw [upd_ne (ne_of_none e n)]; exact e, q⟩
theorem Step.laidO (tr : Trk o H) (n : H p = none) : Step vol o c H (mkO o p w) c (upd H p u) where
 keep := fun a x e _ => by rw [upd_ne (ne_of_none e n)]; exact e
 own := fun a w' e _ => by
  have : a ≠ p := fun z => by
   subst z
   have := tr.new n
   rw [this] at e; cases e
  rw [w6 this]; exact e
 new := fun a e e' => by
  by_cases h : a = p
  ·subst h; exact n
  ·rw [w6 h] at e'; exact absurd e e'
 pre := List.prefix_refl c
theorem Trk.laidO (tr : Trk o H) (n : H p = none) (ou : C0 u) : Trk (mkO o p w) (upd H p u) := fun a h => by
 by_cases e : a = p
 ·subst e; exact ⟨u, upd_same, ou⟩
 ·rw [w6 e] at h
  obtain ⟨x, e', q⟩ := tr a h
  exact ⟨x, by rw [upd_ne e]; exact e', q⟩
theorem CellR.kept {o' : Gh} {H' : Hp} {n : Nat} {b : Addr} {k : Ce} (tr : Trk o H) (kp : Kept o H o' H') (h : ∀ b, o b = some (.cell n) → o' b = some (.cell n) ∧ ∀ u, H b = some u → H' b = some u) (y : CellR K o H n b k) : CellR K o' H' n b k := by
 cases k with
 | dead => trivial
 | lst xs =>
  obtain ⟨q1, vs, q2, q3, q4⟩ := y
  obtain ⟨k1, k2⟩ := h _ q1
  exact ⟨k1, vs, k2 _ q2, q3, q4.kept tr kp⟩
 | dct tk kvs =>
  obtain ⟨q1, ks, vs, ds, q2, q3, q5, q4, q6⟩ := y
  obtain ⟨k1, k2⟩ := h _ q1
  exact ⟨k1, ks, vs, ds, q2.kept k2 (fun b us zz => SqT.kept tr kp zz), q3, q5, q4.kept tr kp, q6⟩
 | tab =>
  obtain ⟨q0, q1, ps, q2, q3, q4⟩ := y
  obtain ⟨k1, k2⟩ := h _ q1
  exact ⟨q0, k1, ps, k2 _ q2, q3, fun pos cv e => by
   obtain ⟨b, e1, e2, e3⟩ := q4 pos cv e
   obtain ⟨k3, k4⟩ := h _ e3
   exact ⟨b, e1, k4 _ e2, k3⟩⟩
 | rcd b v =>
  obtain ⟨q0, fv, q1, q2, q3⟩ := y
  obtain ⟨k1, k2⟩ := h _ q0
  exact ⟨k1, fv, q1.moved k2, q2, q3.movedH tr kp h⟩
theorem CS.move {o' : Gh} {H' : Hp} (r : CS K o c S H) (k : Kept o H o' H') (kc : ∀ a n, o a = some (.cell n) → o' a = some (.cell n) ∧ ∀ u, H a = some u → H' a = some u) (tr : Trk o' H') : CS K o' c S H' :=
 ⟨r.clen, fun n a q e1 e2 => (r.cell n a q e1 e2).kept r.trk k fun a h => kc a n h, tr⟩
theorem CS.laid (r : CS K o c S H) (n : H p = none) : CS K o c S (upd H p u) :=
 r.move (Step.laid (vol := c9) (c := c) n).kept (fun a m e => ⟨e, fun x q => by rw [upd_ne (ne_of_none q n)]; exact q⟩) (r.trk.laid n)
theorem CS.laidO (r : CS K o c S H) (n : H p = none) (ou : C0 u) : CS K (mkO o p w) c S (upd H p u) :=
 r.move (Step.laidO (vol := c9) (c := c) r.trk n).kept (fun a m e => by
  have : a ≠ p := fun z => by
   subst z
   have := r.trk.new n
   rw [this] at e; cases e
  exact ⟨by rw [w6 this]; exact e, fun x q => by rw [upd_ne (ne_of_none q n)]; exact q⟩) (r.trk.laidO n ou)
theorem RS.laid (r : RS K o c ρ S σ H) (n : H p = none) : RS K o c ρ S σ (upd H p u) := r.step (Step.laid n) (r.cs.laid n)
theorem RS.laidO (r : RS K o c ρ S σ H) (n : H p = none) (ou : C0 u) : RS K (mkO o p w) c ρ S σ (upd H p u) := r.step (Step.laidO r.cs.trk n) (r.cs.laidO n ou)
end
section
variable {G : Cc} {W : WX} {o : Gh} {c : Cs} {ρ : En} {σ : L2.St} {H : Hp} {Q : VK} {S : Sto} {p : Addr} {vs : List V} {ds : List D}
theorem f8 {v : V} {d : D} (rs : RS G.K o c ρ S σ H) (h : PostE G W o c ρ σ H (.ok (.val d) S) Q) (r : Rep G.K o H v d) : Q v H := h v o c H Step.refl rs r
theorem C6 (rs : RS G.K o c ρ S σ H) (h : PostE G W o c ρ σ H (.ok (.own ds) S) Q) (n : H p = none) (z : vs.length ≤ sizeLine) (r : RepAll G.K o H vs ds) : Q (.ref p) (upd H p (.lst vs)) :=
 h (.ref p) (mkO o p .tmp) c _ (Step.laidO rs.cs.trk n) (rs.laidO n trivial) ⟨p, vs, rfl, p9, upd_same, z, r.step rs.cs.trk (Step.laidO (vol := c9) (c := c) rs.cs.trk n)⟩
theorem X3 (rs : RS G.K o c ρ S σ H) (h : PostE G W o c ρ σ H (.ok (.val (.tuple ds)) S) Q) (n : H p = none) (z : vs.length ≤ sizeLine) (r : RepAll G.K o H vs ds) : Q (.ref p) (upd H p (.tup vs)) :=
 h (.ref p) o c _ (Step.laid n) (rs.laid n) (.tup p vs ds (.of upd_same) z (r.step rs.cs.trk (Step.laid (vol := c9) (c := c) n)))
end

abbrev SA := En → Sto → R (List T)
def R.l {α β : Type} (r : R α) (k : α → Sto → R β) : R β := match r with
 | .ok t S => k t S
 | .exc e S => .exc e S
 | .bad => .bad
theorem R.l_ok {α β : Type} (t : α) (S : Sto) (k : α → Sto → R β) : R.l (.ok t S) k = k t S := rfl
def m6 : SA := fun _ S => .ok [] S
def d3 (f : SE) (g : SA) : SA := fun ρ S => R.l (f ρ S) fun t S1 => R.l (g ρ S1) fun ts S2 => .ok (asA t :: ts) S2
def RepTs (K : PySem.W.Frag) (o : Gh) (c : Cs) (H : Hp) (vs : List V) (ts : List T) : Prop := vs.length = ts.length ∧ ∀ (i : Nat) (v : V) (t : T), vs[i]? = some v → ts[i]? = some t → RepT K o c H .prot v t ∧ asA t = t
def PostA (G : Cc) (W : WX) (o : Gh) (c : Cs) (ρ : En) (σ : L2.St) (H : Hp) (r : R (List T)) (Q : List V → Hp → Prop) : Prop := match r with
 | .ok ts S' => ∀ vs o' c' H', Step c9 o c H o' c' H' → NT o' → RS G.K o' c' ρ S' σ H' → RepTs G.K o' c' H' vs ts → Q vs H'
 | .exc e S' => ∀ cls d o' c' H', Step c9 o c H o' c' H' → RS G.K o' c' ρ S' σ H' → NT o' → b1f G.mg H' cls d e → W cls d σ H'
 | .bad => False
def AR (G : Cc) (W : WX) (t : TA) (f : SA) : Prop := ∀ (σ : L2.St) (H : Hp) (ρ : En) (S : Sto) (o : Gh) (c : Cs) (Q : List V → Hp → Prop), NT o → RS G.K o c ρ S σ H → PostA G W o c ρ σ H (f ρ S) Q → t σ H Q
theorem AR.d {G : Cc} {W : WX} {o : Gh} {c : Cs} {ρ : En} {σ : L2.St} {H : Hp} {f : SA} {t : TA} (h : AR G W t f) {S : Sto} {k : List T → Sto → R T} {Q : List V → Hp → Prop} {Q0 : VK} (nt : NT o) (rs : RS G.K o c ρ S σ H) (p : PostE G W o c ρ σ H (R.l (f ρ S) k) Q0)
  (q : ∀ ts S1 vs o1 c1 H1, Step c9 o c H o1 c1 H1 → NT o1 → RS G.K o1 c1 ρ S1 σ H1 → RepTs G.K o1 c1 H1 vs ts → PostE G W o1 c1 ρ σ H1 (k ts S1) Q0 → Q vs H1) : t σ H Q := by
 refine h σ H ρ S o c Q nt rs ?_
 cases e : f ρ S with
 | ok ts S1 => rw [e] at p; exact fun vs o' c' H' s nt' rs' r' => q ts S1 vs o' c' H' s nt' rs' r' (PostE.step s p)
 | exc e S1 => rw [e] at p; exact p
 | bad => rw [e] at p; exact p
def AV (G : Cc) (es : List Expr) (f : SA) : Prop := ∃ t : WX → TA, (∀ X W, G.Ok X W → PA X es (t W)) ∧ ∀ W, AR G W (t W) f
theorem b2c (t : T) : asA (asA t) = asA t := by cases t <;> rfl
theorem RepTs.step {K : PySem.W.Frag} {o o1 : Gh} {c c1 : Cs} {H H1 : Hp} {vs : List V} {ts : List T} (tr : Trk o H) (a : Step c9 o c H o1 c1 H1) (r : RepTs K o c H vs ts) : RepTs K o1 c1 H1 vs ts :=
 ⟨r.1, fun i v t e1 e2 => ⟨(r.2 i v t e1 e2).1.step tr a (fun z => z), (r.2 i v t e1 e2).2⟩⟩
theorem j3 {G : Cc} : AV G [] m6 := ⟨fun _ => tNil, fun X W k => pa_nil, fun W σ H ρ S o c Q nt rs p => p [] o c H Step.refl nt rs ⟨rfl, fun i v t e => by simp at e⟩⟩
theorem PostA.step {G : Cc} {W : WX} {o o1 : Gh} {c c1 : Cs} {ρ : En} {σ : L2.St} {H H1 : Hp} {r : R (List T)} {Q : List V → Hp → Prop} (a : Step c9 o c H o1 c1 H1) (h : PostA G W o c ρ σ H r Q) : PostA G W o1 c1 ρ σ H1 r Q := by
 cases r with
 | ok t S' => exact fun v o' c' H' s => h v o' c' H' (a.trans s)
 | exc e S' => exact fun cls d o' c' H' s => h cls d o' c' H' (a.trans s)
 | bad => exact h
theorem f6 {G : Cc} {e : Expr} {es : List Expr} {f : SE} {g : SA} (h1 : EV G e f) (h2 : AV G es g) (hs : ∀ env : PySem.Env, starEach (e :: es) env = (false, eval e env) :: starEach es env := by intro _; rfl) : AV G (e :: es) (d3 f g) := by
 obtain ⟨t1, p1, q1⟩ := h1
 obtain ⟨t2, p2, q2⟩ := h2
 refine ⟨fun W => tCons (t1 W) (t2 W), fun X W k => pa_cons (p1 X W k) (p2 X W k) (hs _), fun W σ H ρ S o c Q nt rs p => ?_⟩
 refine q1 W σ H ρ S o c _ nt rs ?_
 unfold d3 at p
 cases e1 : f ρ S with
 | ok t S1 =>
  rw [e1] at p
  intro v o1 c1 H1 s1 rs1 r1
  have s1' := s1.untmp nt
  have p' := PostA.step s1' p
  refine q2 W σ H1 ρ S1 (unT o1) c1 _ B7 rs1.untmp ?_
  cases e2 : g ρ S1 with
  | bad => rw [R.l_ok, e2] at p'; exact p'
  | exc e S2 => rw [R.l_ok, e2] at p'; exact p'
  | ok ts S2 =>
   rw [R.l_ok, e2] at p'
   intro vs o2 c2 H2 s2 nt2 rs2 r2
   refine p' (v :: vs) o2 c2 H2 s2 nt2 rs2 ⟨by rw [List.length_cons, List.length_cons, r2.1], fun i v' t' e3 e4 => ?_⟩
   cases i with
   | zero =>
    simp only [List.getElem?_cons_zero, Option.some.injEq] at e3 e4
    subst e3 e4
    exact ⟨(r1.toA (w := .prot) rs1.cs.trk).step rs1.untmp.cs.trk s2 (fun z => z), b2c t⟩
   | succ i => exact r2.2 i v' t' (by simpa using e3) (by simpa using e4)
 | exc e S1 => rw [e1] at p; exact p
 | bad => rw [e1] at p; exact p

def PostS (G : Cc) (W : WX) (o : Gh) (c : Cs) (H : Hp) (r : Fl) (D : Ends) : Prop := match r with
 | .nx ρ' S' => ∀ σ' o' c' H', Step A0 o c H o' c' H' → NT o' → RS G.K o' c' ρ' S' σ' H' → D.nx σ' H'
 | .bk ρ' S' => ∀ σ' o' c' H', Step A0 o c H o' c' H' → NT o' → RS G.K o' c' ρ' S' σ' H' → D.bk σ' H'
 | .ct ρ' S' => ∀ σ' o' c' H', Step A0 o c H o' c' H' → NT o' → RS G.K o' c' ρ' S' σ' H' → D.ct σ' H'
 | .rt t S' => ∀ v o' c' H', Step A0 o c H o' c' H' → CS G.K o' c' S' H' → RepT G.K o' c' H' .tmp v t → D.rt v H'
 | .ex e ρ' S' => ∀ cls d σ' o' c' H', Step A0 o c H o' c' H' → NT o' → RS G.K o' c' ρ' S' σ' H' → b1f G.mg H' cls d e → W cls d σ' H'
 | .bad => False
def SR (G : Cc) (W : WX) (t : TS) (f : SS) : Prop := ∀ (σ : L2.St) (H : Hp) (ρ : En) (S : Sto) (o : Gh) (c : Cs) (D : Ends), NT o → RS G.K o c ρ S σ H → PostS G W o c H (f ρ S) D → t D σ H
def SV (G : Cc) (st : Stmt) (f : SS) : Prop := ∃ t : WX → TS, (∀ X W, G.Ok X W → PS X st (t W)) ∧ ∀ W, SR G W (t W) f
def SVs (G : Cc) (st : List Stmt) (f : SS) : Prop := ∃ t : WX → TS, (∀ X W, G.Ok X W → PSs X st (t W)) ∧ ∀ W, SR G W (t W) f
section
variable {G : Cc} {W : WX} {o o1 : Gh} {c c1 : Cs} {H H1 : Hp} {r : Fl} {D : Ends} {st : Stmt} {sts : List Stmt} {f g : SS}
theorem PostS.step (a : Step A0 o c H o1 c1 H1) (h : PostS G W o c H r D) : PostS G W o1 c1 H1 r D := by
 cases r with
 | nx ρ S => exact fun σ' o' c' H' s => h σ' o' c' H' (a.trans s)
 | bk ρ S => exact fun σ' o' c' H' s => h σ' o' c' H' (a.trans s)
 | ct ρ S => exact fun σ' o' c' H' s => h σ' o' c' H' (a.trans s)
 | rt t S => exact fun v o' c' H' s => h v o' c' H' (a.trans s)
 | ex e ρ S => exact fun cls d σ' o' c' H' s => h cls d σ' o' c' H' (a.trans s)
 | bad => exact h
def t4 : SS := fun ρ S => .nx ρ S
def Fl.then (r : Fl) (g : SS) : Fl := match r with
 | .nx ρ S => g ρ S
 | x => x
def j9 (f g : SS) : SS := fun ρ S => (f ρ S).then g
theorem n5 : SVs G [] t4 := ⟨fun _ => tNext, fun _ _ _ => pss_nil, fun W σ H ρ S o c D nt rs p => p σ o c H Step.refl nt rs⟩
theorem b8 (h1 : SV G st f) (h2 : SVs G sts g) : SVs G (st :: sts) (j9 f g) := by
 obtain ⟨t1, p1, q1⟩ := h1
 obtain ⟨t2, p2, q2⟩ := h2
 refine ⟨fun W => tSeq (t1 W) (t2 W), fun X W k => pss_cons (p1 X W k) (p2 X W k), fun W σ H ρ S o c D nt rs p => ?_⟩
 refine q1 W σ H ρ S o c _ nt rs ?_
 unfold j9 at p
 cases e : f ρ S with
 | nx ρ' S' =>
  rw [e] at p
  intro σ' o' c' H' s nt' rs'
  have p' : PostS G W o c H (g ρ' S') D := p
  exact q2 W σ' H' ρ' S' o' c' D nt' rs' (p'.step s)
 | bk ρ' S' => rw [e] at p; exact p
 | ct ρ' S' => rw [e] at p; exact p
 | rt t S' => rw [e] at p; exact p
 | ex e ρ' S' => rw [e] at p; exact p
 | bad => rw [e] at p; exact p
theorem d8 (h1 : SV G st f) : SVs G [st] f := by
 obtain ⟨t1, p1, q1⟩ := h1
 exact ⟨t1, fun X W k => pss_one (p1 X W k), q1⟩
end
end BV
namespace BV
open PySem L2

section
variable {G : Cc} {X : Cx} {W : WX}
theorem Cc.Ok.at (k : G.Ok X W) {i : Nat} {x : Str} (h : G.N[i]? = some x) : X.N[i]? = some x := by rw [k.N]; exact h
theorem Cc.Ok.vis (k : G.Ok X W) {x : Str} (h : Vis G.sc x) : Vis X.env.scope x := by rw [k.sc]; exact h
theorem Cc.Ok.loc (k : G.Ok X W) {x : Str} (h : Loc G.sc x) : Loc X.env.scope x := by rw [k.sc]; exact h
theorem Cc.Ok.gl (k : G.Ok X W) {x : Str} (h : G.sc.names.lookup x = some .globalImplicit) : Gl X x := by
 show X.env.scope.names.lookup x = some .globalImplicit
 rw [k.sc]; exact h
theorem Cc.Ok.nd (k : G.Ok X W) (h : G.N.Nodup) : X.N.Nodup := by rw [k.N]; exact h
theorem Cc.Ok.m (k : G.Ok X W) {x : Str} {u : Option Value} (h : G.mg x = u) : X.mg x = u := by rw [k.mg]; exact h
theorem Cc.Ok.hf (k : G.Ok X W) {x : Str} (h : G.fn x = true ∨ G.sc.names.lookup x = some .local) : X.fn x = true ∨ X.env.scope.names.lookup x = some .local := by rw [k.fn, k.sc]; exact h
end

section
variable {G : Cc} {pos : Pos}
def m7 (i : Nat) : SE := fun ρ S => match ρ[i]? with
 | some (some (.val d)) => .ok (.val d) S
 | some (some (.cel n)) => .ok (.cel n) S
 | some (some (.scr ns)) => .ok (.scr ns) S
 | some (some (.exn a C d e)) => .ok (.exn a C d e) S
 | _ => .bad
theorem f7 (i : Nat) {x : Str} (hN : G.N[i]? = some x := by rfl) (hv : Vis G.sc x := by first | exact Or.inl rfl | exact Or.inr (Or.inl rfl) | exact Or.inr (Or.inr rfl))
  (hd : (x == ("__debug__" : Str)) = false := by decide) (hcd : (x == ("__classdict__" : Str)) = false := by decide) : EV G (.Name x pos) (m7 i) := by
 refine ⟨fun _ => tVar i, fun X W k => pe_var (k.at hN) (k.vis hv) hd hcd, fun W σ H ρ S o c Q nt rs p => ?_⟩
 unfold m7 at p
 split at p
 ·rename_i d e
  obtain ⟨v, e1, r⟩ := rs.slot i _ e
  exact ⟨v, e1, p v o c H Step.refl rs r⟩
 ·rename_i n e
  obtain ⟨v, e1, r⟩ := rs.slot i _ e
  exact ⟨v, e1, p v o c H Step.refl rs r⟩
 ·rename_i ns e
  obtain ⟨v, e1, r⟩ := rs.slot i _ e
  exact ⟨v, e1, p v o c H Step.refl rs r⟩
 ·rename_i a C d x e
  obtain ⟨v, e1, r⟩ := rs.slot i _ e
  exact ⟨v, e1, p v o c H Step.refl rs r⟩
 ·exact p.elim
def cC (d : D) : SE := fun _ S => .ok (.val d) S
theorem b70 {e : Expr} {v : V} {d : D} (h : ∀ X, PE X e (tC v)) (r : ∀ K o H, Rep K o H v d) : EV G e (cC d) :=
 ⟨fun _ => tC v, fun X _ _ => h X, fun W σ H ρ S o c Q nt rs p => p v o c H Step.refl rs (r _ _ _)⟩
theorem c8 {i : Int} {j : Nat} : EV G (.Constant (.int i) j pos) (cC (.int i)) := b70 (fun _ => pe_int) fun _ _ _ => .int i
theorem a71 {i : Bool} {j : Nat} : EV G (.Constant (.bool i) j pos) (cC (.bool i)) := b70 (fun _ => pe_bl) fun _ _ _ => .bl i
theorem J8 {j : Nat} : EV G (.Constant .none j pos) (cC .none) := b70 (fun _ => pe_non) fun _ _ _ => .non
theorem b1N (s : String) : PyData.strOk (Str.ofString s) = true := by
 have h := TL.tl_ofString s
 have e : (Str.ofString s).cps.toList = s.toList.map Char.toNat := h
 show (Str.ofString s).cps.all (fun x => decide (x < 0x110000)) = true
 rw [← Array.all_toList, e, List.all_map, List.all_eq_true]
 intro c _
 have := c.valid
 show decide (c.val.toNat < 0x110000) = true
 refine decide_eq_true ?_
 have q : c.val.toNat < 0xd800 ∨ (0xdfff < c.val.toNat ∧ c.val.toNat < 0x110000) := this
 omega
theorem b3g {x : Str} {j : Nat} (h1 : PyData.strOk x = true := by exact b1N _) (h2 : x.length ≤ sizeLine := by decide +kernel) : EV G (.Constant (.str x) j pos) (cC (.str x)) := b70 (fun _ => pe_str) fun _ _ _ => .str x h1 h2
theorem b34 {x : Str} {i : Int} {t : Tok} (hm : G.mg x = some (.int i t)) (hg : G.sc.names.lookup x = some .globalImplicit := by rfl) (hd : (x == ("__debug__" : Str)) = false := by decide) : EV G (.Name x pos) (cC (.int i)) :=
 ⟨fun _ => tC (.int i), fun X W k => pe_glob (k.gl hg) (k.m hm) ⟨_, rfl⟩ hd, fun W σ H ρ S o c Q nt rs p => p _ o c H Step.refl rs (.int i)⟩
def b7 (i : Nat) : SE := fun ρ S => match ρ[i]? with
 | some (some (.val d)) => .ok (.val d) S
 | some (some (.own xs)) => .ok (.own xs) S
 | some (some (.ownd q kvs)) => .ok (.ownd q kvs) S
 | _ => .bad
theorem b6 (i : Nat) {x : Str} (hN : G.N[i]? = some x := by rfl) (hv : Vis G.sc x := by first | exact Or.inl rfl | exact Or.inr (Or.inl rfl) | exact Or.inr (Or.inr rfl))
  (hd : (x == ("__debug__" : Str)) = false := by decide) (hcd : (x == ("__classdict__" : Str)) = false := by decide) : UV G (.Name x pos) (b7 i) := by
 refine ⟨fun _ => tVar i, fun X W k => pe_var (k.at hN) (k.vis hv) hd hcd, fun W σ H ρ S o c Q nt rs p => ?_⟩
 have ns : ∀ a, o a = some (.slot i) → ∀ w, o a = some w → ¬ c9 w := fun a h w hw => by rw [h] at hw; cases hw; exact fun z => z
 unfold b7 at p
 split at p
 ·rename_i d e
  obtain ⟨v, e1, r⟩ := rs.slot i _ e
  obtain ⟨d', e2, q⟩ := p
  cases e2
  exact ⟨v, e1, q v o c H Step.refl nt rs (.of _ _ r)⟩
 ·rename_i xs e
  obtain ⟨v, e1, a, vs, e2, h1, h2, h3, h4⟩ := rs.slot i _ e
  subst e2
  obtain ⟨d', e2, q⟩ := p
  cases e2
  exact ⟨_, e1, q _ o c H Step.refl nt rs (.lst a vs xs h2 (ns a h1) h3 h4)⟩
 ·rename_i tk kvs e
  obtain ⟨v, e1, a, ks, vs, ds, e2, h1, h2, h3, h5, h4, e6⟩ := rs.slot i _ e
  subst e2
  obtain ⟨d', e2, q⟩ := p
  cases e2
  exact ⟨_, e1, q _ o c H Step.refl nt rs (.dct tk a ks vs ds _ h2.r (ns a h1) h3 h5 h4 (by rw [e6]))⟩
 ·exact p.elim

def d9 (g : D → D → Option T) (f1 f2 : SE) : SE := fun ρ S => R.d (f1 ρ S) fun a S1 => R.d (f2 ρ S1) fun b S2 => match g a b with | some t => .ok t S2 | none => .bad
def OpD (K : PySem.W.Frag) (r : R2) (g : D → D → Option T) : Prop := ∀ (G : Cc) (W : WX) (o : Gh) (c : Cs) (ρ : En) (S : Sto) (σ : L2.St) (H : Hp) (x y : V) (a b : D) (t : T) (Q : VK), G.K = K → RS K o c ρ S σ H → RepU K o H x a → RepU K o H y b → g a b = some t →
 PostE G W o c ρ σ H (.ok t S) Q → r x y H Q
theorem a6B {W : WX} {t1 t2 : TE} {f1 f2 : SE} {r : R2} {g : D → D → Option T} (h1 : URd G W t1 f1) (h2 : URd G W t2 f2) (hr : OpD G.K r g) : ER G W (tOp r t1 t2) (d9 g f1 f2) := by
 intro σ H ρ S o c Q nt rs p
 refine h1.d nt rs p fun a S1 v1 o1 c1 H1 s1 nt1 rs1 r1 p1 => ?_
 refine h2.d nt1 rs1 p1 fun b S2 v2 o2 c2 H2 s2 nt2 rs2 r2 p2 => ?_
 cases e : g a b with
 | none => rw [e] at p2; exact p2.elim
 | some t =>
  rw [e] at p2
  exact hr G W o2 c2 ρ S2 σ H2 v1 v2 a b t Q rfl rs2 (r1.step rs1.cs.trk s2) r2 e p2
theorem a77 {a b : Expr} {f1 f2 : SE} {op : Operator} {r : PySem.W.Frag → R2} {g : D → D → Option T} (ho : ∀ X W, G.Ok X W → OpR X (binaryOp op) (r X.K)) (hr : OpD G.K (r G.K) g) (h1 : UV G a f1) (h2 : UV G b f2) : EV G (.BinOp a op b pos) (d9 g f1 f2) := by
 obtain ⟨t1, p1, q1⟩ := h1
 obtain ⟨t2, p2, q2⟩ := h2
 exact ⟨fun W => tOp (r G.K) (t1 W) (t2 W), fun X W k => by have := ho X W k; rw [k.K] at this; exact pe_op this (p1 X W k) (p2 X W k), fun W => a6B (q1 W) (q2 W) hr⟩

def B2 : D → D → Option T
 | .int i, .int j => some (.val (.int (i + j)))
 | .str x, .str y => if x.length + y.length ≤ sizeLine then some (.val (.str (x ++ y))) else none
 | .list xs, .list ys => if xs.length + ys.length ≤ sizeLine then some (.own (xs ++ ys)) else none
 | .tuple xs, .tuple ys => if xs.length + ys.length ≤ sizeLine then some (.val (.tuple (xs ++ ys))) else none
 | _, _ => none
def b6e (K : PySem.W.Frag) : R2 := fun x y H Q => (((∃ i j, x = .int i ∧ y = .int j ∧ Q (.int (i + j)) H) ∨ (∃ i j, x = .str i ∧ y = .str j ∧ i.length + j.length ≤ sizeLine ∧ Q (.str (i ++ j)) H)) ∨ (rCat x y H Q ∨ rCatA K x y H Q))
theorem a2t {x y : Str} (h1 : PyData.strOk x = true) (h2 : PyData.strOk y = true) : PyData.strOk (x ++ y) = true := by
 have e : (x ++ y).cps = x.cps ++ y.cps := rfl
 show (x ++ y).cps.all _ = true
 rw [e, Array.all_append, Bool.and_eq_true]
 exact ⟨h1, h2⟩
theorem U5 (x y : Str) : (x ++ y).length = x.length + y.length := by
 show (x.cps ++ y.cps).size = _
 rw [Array.size_append]
 rfl
theorem b3Z (K : PySem.W.Frag) : OpD K (b6e K) B2 := by
 intro G W o c ρ S σ H x y a b t Q hK rs r1 r2 e p
 subst hK
 unfold B2 at e
 split at e
 ·cases e
  rw [r1.intV, r2.intV]
  exact .inl (.inl ⟨_, _, rfl, rfl, f8 rs p (.int _)⟩)
 ·split at e
  ·cases e
   obtain ⟨e1, o1, l1⟩ := r1.strV
   obtain ⟨e2, o2, l2⟩ := r2.strV
   rw [e1, e2]
   rename_i hl
   exact .inl (.inr ⟨_, _, rfl, rfl, hl, f8 rs p (.str _ (a2t o1 o2) (by rw [U5]; exact hl))⟩)
  ·cases e
 ·split at e
  ·cases e
   obtain ⟨a1, v1, e1, h1, n1, z1, q1⟩ := r1.lstV
   obtain ⟨a2, v2, e2, h2, n2, z2, q2⟩ := r2.lstV
   rw [e1, e2]
   rename_i hl
   rw [← q1.length, ← q2.length] at hl
   exact .inr (.inl ⟨a1, a2, v1, v2, rfl, rfl, h1, h2, hl, fun q n => C6 rs p n (by rw [List.length_append]; exact hl) (q1.append q2)⟩)
  ·cases e
 ·split at e
  ·cases e
   obtain ⟨a1, v1, e1, h1, z1, q1⟩ := r1.tupW
   obtain ⟨a2, v2, e2, h2, z2, q2⟩ := r2.tupW
   rw [e1, e2]
   rename_i hl
   rw [← q1.length, ← q2.length] at hl
   refine .inr (.inr ⟨a1, a2, v1, v2, rfl, rfl, h1, h2, hl, fun z => ?_, fun _ z => ?_, fun z1 z2 q n => X3 rs p n (by rw [List.length_append]; exact hl) (q1.append q2)⟩)
   ·subst z
    cases q1
    exact f8 rs p (.tup a2 v2 _ h2 z2 q2)
   ·subst z
    cases q2
    exact f8 rs p (by rw [List.append_nil]; exact .tup a1 v1 _ h1 z1 q1)
  ·cases e
 ·cases e
theorem j5 {a b : Expr} {f1 f2 : SE} (h1 : UV G a f1) (h2 : UV G b f2) : EV G (.BinOp a .Add b pos) (d9 B2 f1 f2) :=
 a77 (r := b6e) (fun X W k => (op_add.or op_add_str).or (op_cat.or op_catA)) (b3Z _) h1 h2
def b5B (p : Int → Int → Bool) (h : Int → Int → Int) : D → D → Option T
 | .int i, .int j => if p i j then some (.val (.int (h i j))) else none
 | _, _ => none
theorem a1L {K : PySem.W.Frag} {C : Int → Int → Prop} {p : Int → Int → Bool} {h : Int → Int → Int} (hp : ∀ i j, p i j = true → C i j) : OpD K (rI C fun i j => .int (h i j)) (b5B p h) := by
 intro G W o c ρ S σ H x y a b t Q hK rs r1 r2 e q
 subst hK
 unfold b5B at e
 split at e
 ·split at e
  ·cases e
   rw [r1.intV, r2.intV]
   exact ⟨_, _, rfl, rfl, hp _ _ ‹_›, f8 rs q (.int _)⟩
  ·cases e
 ·cases e
def gSub := b5B (fun _ _ => true) (fun i j => i - j)
theorem B4 {a b : Expr} {f1 f2 : SE} (h1 : UV G a f1) (h2 : UV G b f2) : EV G (.BinOp a .Sub b pos) (d9 gSub f1 f2) :=
 a77 (r := fun _ => rI (fun _ _ => True) fun i j => .int (i - j)) (fun X W k => opI fun _ _ _ _ _ _ _ _ q => PyProof.Rows.sub_int q) (a1L fun _ _ _ => trivial) h1 h2
def a9L (i j : Int) : Bool := decide (i.natAbs.log2 + j.natAbs.log2 < 1000000)
theorem b1T {i j : Int} (h : a9L i j = true) : CMulW i j := by
 unfold a9L at h
 have h2 : i.natAbs.log2 + j.natAbs.log2 < 1000000 := of_decide_eq_true h
 exact h2
def w3 (i : Int) : Bool := decide (i.natAbs.log2 < 60)
theorem R5 {i : Int} (h : w3 i = true) : -(2 ^ 60) < i ∧ i < 2 ^ 60 := by
 have h1 : i.natAbs.log2 < 60 := of_decide_eq_true h
 have h2 : i.natAbs < 2 ^ 60 := by
  by_cases z : i.natAbs = 0
  ·omega
  ·exact (Nat.log2_lt z).mp h1
 omega
theorem K1 {i : Int} (h : w3 i = true) : -(2 ^ 62) ≤ i := by have := R5 h; omega
theorem Q2 {i : Int} (h : w3 i = true) : i < 2 ^ 62 := by have := R5 h; omega
theorem a0Z {i : Int} (h : w3 i = true) : -(2 ^ 63) ≤ i := by have := R5 h; omega
theorem a04 {i : Int} (h : w3 i = true) : i < 2 ^ 63 := by have := R5 h; omega
theorem J5 {i : Int} (h0 : -(2 ^ 60) < i) (h1 : i < 2 ^ 60) : w3 i = true := by
 refine decide_eq_true ?_
 by_cases z : i.natAbs = 0
 ·rw [z]; decide
 ·exact (Nat.log2_lt z).mpr (by omega)
def C5 : D → D → Option T
 | .int i, .int j => if a9L i j then some (.val (.int (i * j))) else none
 | .list xs, .int k => if w3 k = true ∧ xs.length * k.toNat ≤ sizeLine then some (.own (List.replicate k.toNat xs).flatten) else none
 | .int k, .list xs => if w3 k = true ∧ xs.length * k.toNat ≤ sizeLine then some (.own (List.replicate k.toNat xs).flatten) else none
 | _, _ => none
theorem RepAll.rep {K : PySem.W.Frag} {o : Gh} {H : Hp} {vs : List V} {ds : List D} (h : RepAll K o H vs ds) : ∀ k : Nat, RepAll K o H (List.replicate k vs).flatten (List.replicate k ds).flatten
 | 0 => .nil
 | k + 1 => by
  rw [List.replicate_succ, List.replicate_succ, List.flatten_cons, List.flatten_cons]
  exact h.append (RepAll.rep h k)
theorem T2 {α : Type} (xs : List α) : ∀ k : Nat, (List.replicate k xs).flatten.length = xs.length * k
 | 0 => by simp
 | k + 1 => by rw [List.replicate_succ, List.flatten_cons, List.length_append, T2 xs k, Nat.mul_succ, Nat.add_comm]
def b6B : R2 := fun x y H Q => rRep y x H Q
theorem b4p {X : Cx} : OpR X (binaryOp .Mult) b6B := by
 intro pins s σ H x y v u Q I rx ry hq
 obtain ⟨b, j, vs, rfl, rfl, hb, j1, j2, jz, q⟩ := hq
 obtain ⟨t, rfl⟩ := rx
 cases ry
 obtain ⟨z, its, n, r, hl, e⟩ := I.lstM hb
 have lz : its.toArray.size * j.toNat ≤ sizeLine := by simpa [← hl] using jz
 have c0 : ¬ (!Builtin.List.listFitsIndex j) = true := by simp [fitsIndex_both j1 j2]
 have c1 : ¬ its.toArray.size * j.toNat > (2 ^ 63 - 1) / 8 := fun w => absurd (Nat.lt_of_lt_of_le w lz) (by decide)
 have c2 : ¬ Builtin.List.listTooLong (its.toArray.size * j.toNat) = true := by rw [notLongL lz]; exact Bool.false_ne_true
 have made : List.foldl (fun p q => p ++ q) #[] (List.replicate (if its.toArray.isEmpty = true then 0 else j.toNat) its.toArray) = (List.replicate j.toNat its).flatten.toArray := by
  have f := foldl_rep its j.toNat []
  cases its with
  | nil => simp
  | cons a l => simpa using f
 refine lm_binaryOp_repeat_right (T := "list") (U := "int") (by decide) (typeIs_int · j t) ⟨_, e, rfl⟩ F.fills_int_mul noFill_list_mul F.slot_int_mul lm_noRepeat_int repeat_list F.slot_int_index.lookup ?_
 refine call_meets F.slot_int_mul (typeIs_int s j t) F.entry_int_mul (F.args_int_mul_2 _ _) (int___mul___int_list j t b its.toArray n) ⟨e, rfl, ⟨_, e, rfl⟩, ?_⟩
 refine call_meets F.slot_list_mul ⟨_, e, rfl⟩ F.entry_list_mul (F.args_list_mul_2 _ _) (AutoListH.list___mul___list_int_3 b its.toArray n j t c0 c1 c2) ⟨e, ?_⟩
 rw [made]
 refine ⟨.ref _, _, I.lnew (t' := s.toks) (r.rep j.toNat) ?_, rfl, q _ I.fresh⟩
 rw [PyProof.Rows.lm_len_rep_flat, Nat.mul_comm]
 exact jz
def b6S : R2 := fun x y H Q => rI CMulW (fun i j => .int (i * j)) x y H Q ∨ (rRep x y H Q ∨ b6B x y H Q)
theorem b5g (K : PySem.W.Frag) : OpD K b6S C5 := by
 intro G W o c ρ S σ H x y a b t Q hK rs r1 r2 e p
 subst hK
 unfold C5 at e
 split at e
 ·split at e
  ·cases e
   rw [r1.intV, r2.intV]
   exact .inl ⟨_, _, rfl, rfl, b1T ‹_›, f8 rs p (.int _)⟩
  ·cases e
 ·split at e
  ·cases e
   obtain ⟨a1, v1, e1, h1, n1, z1, q1⟩ := r1.lstV
   rw [e1, r2.intV]
   rename_i hl
   obtain ⟨k0, k3⟩ := hl
   have k1 := a0Z k0
   have k2 := a04 k0
   rw [← q1.length] at k3
   exact .inr (.inl ⟨a1, _, v1, rfl, rfl, h1, k1, k2, k3, fun q n => C6 rs p n (by rw [T2]; exact k3) (q1.rep _)⟩)
  ·cases e
 ·split at e
  ·cases e
   obtain ⟨a1, v1, e1, h1, n1, z1, q1⟩ := r2.lstV
   rw [e1, r1.intV]
   rename_i hl
   obtain ⟨k0, k3⟩ := hl
   have k1 := a0Z k0
   have k2 := a04 k0
   rw [← q1.length] at k3
   exact .inr (.inr ⟨a1, _, v1, rfl, rfl, h1, k1, k2, k3, fun q n => C6 rs p n (by rw [T2]; exact k3) (q1.rep _)⟩)
  ·cases e
 ·cases e
theorem A8 {a b : Expr} {f1 f2 : SE} (h1 : UV G a f1) (h2 : UV G b f2) : EV G (.BinOp a .Mult b pos) (d9 C5 f1 f2) :=
 a77 (r := fun _ => b6S) (fun X W k => op_mulW.or (op_rep.or b4p)) (b5g _) h1 h2
def b1O (j : Int) : Bool := decide (0 < j) && decide (j.natAbs.log2 < 9000)
def b2M := b5B (fun _ j => b1O j) (fun i j => i / j)
theorem a9H {a b : Expr} {f1 f2 : SE} (h1 : UV G a f1) (h2 : UV G b f2) : EV G (.BinOp a .FloorDiv b pos) (d9 b2M f1 f2) :=
 a77 (r := fun _ => rI CDivW fun i j => .int (i / j)) (fun X W k => op_fdivW) (a1L fun _ j h => by
  unfold b1O at h
  rw [Bool.and_eq_true] at h
  exact ⟨of_decide_eq_true h.1, of_decide_eq_true h.2⟩) h1 h2
def a5K := b5B (fun _ j => decide (0 < j)) (fun i j => i % j)
theorem V6 {a b : Expr} {f1 f2 : SE} (h1 : UV G a f1) (h2 : UV G b f2) : EV G (.BinOp a .Mod b pos) (d9 a5K f1 f2) :=
 a77 (r := fun _ => rI (fun _ j => 0 < j) fun i j => .int (i % j)) (fun X W k => op_mod) (a1L fun _ j h => of_decide_eq_true h) h1 h2
def a2e := b5B (fun i j => decide (0 ≤ j ∧ j ≤ 1000000 ∧ i.natAbs < 2 ^ 64)) (fun i j => i ^ j.toNat)
theorem a0Q {a b : Expr} {f1 f2 : SE} (h1 : UV G a f1) (h2 : UV G b f2) : EV G (.BinOp a .Pow b pos) (d9 a2e f1 f2) :=
 a77 (r := fun _ => rI CPow fun i j => .int (i ^ j.toNat)) (fun X W k => op_pow) (a1L fun i j h => (by have h2 : 0 ≤ j ∧ j ≤ 1000000 ∧ i.natAbs < 2 ^ 64 := of_decide_eq_true h; exact h2)) h1 h2

def cUn (g : D → Option T) (f1 : SE) : SE := fun ρ S => R.d (f1 ρ S) fun a S1 => match g a with | some t => .ok t S1 | none => .bad
def a1v : D → Option T
 | .int i => some (.val (.int (-i)))
 | _ => none
theorem Z6 {a : Expr} {f1 : SE} (h1 : UV G a f1) : EV G (.UnaryOp .USub a pos) (cUn a1v f1) := by
 obtain ⟨t1, p1, q1⟩ := h1
 refine ⟨fun W => tUn (rU fun i => .int (-i)) (t1 W), fun X W k => pe_un un_neg (p1 X W k), fun W σ H ρ S o c Q nt rs p => ?_⟩
 refine (q1 W).d nt rs p fun a S1 v1 o1 c1 H1 s1 nt1 rs1 r1 p1 => ?_
 cases a with
 | int i =>
  rw [r1.intV]
  exact ⟨i, rfl, f8 rs1 p1 (.int _)⟩
 | _ => exact p1.elim

def CR (G : Cc) (op : CmpOp) (g : D → D → Option T) : Prop := ∃ r : R2, (∀ X W, G.Ok X W → OpR X (compareOp op) r) ∧ OpD G.K r g
def I7 (d : D) : Bool := E2 d && decide (d.depth ≤ 64)
def gEq (neg : Bool) : D → D → Option T := fun a b => if I7 a && I7 b then some (.val (.bool (if neg then !PyData.eqv a b else PyData.eqv a b))) else none
theorem m8 {K : PySem.W.Frag} {o : Gh} {H : Hp} {v : V} {d : D} (r : RepU K o H v d) (h : I7 d = true) : SeqAt.shaped d = true := by
 unfold I7 at h
 rw [Bool.and_eq_true] at h
 unfold SeqAt.shaped
 rw [r.can h.1, h.2]
 rfl
theorem b6j (K : PySem.W.Frag) : OpD K (rEqD K) (gEq false) := by
 intro G W o c ρ S σ H x y a b t Q hK rs r1 r2 e p
 subst hK
 unfold gEq at e
 split at e
 ·cases e
  rename_i h
  rw [Bool.and_eq_true] at h
  have n1 := h.1
  have n2 := h.2
  unfold I7 at n1 n2
  rw [Bool.and_eq_true] at n1 n2
  exact ⟨a, b, r1.dp n1.1, r2.dp n2.1, m8 r1 h.1, m8 r2 h.2, f8 rs p (.bl _)⟩
 ·cases e
theorem b6G (K : PySem.W.Frag) : OpD K (rNeD K) (gEq true) := by
 intro G W o c ρ S σ H x y a b t Q hK rs r1 r2 e p
 subst hK
 unfold gEq at e
 split at e
 ·cases e
  rename_i h
  rw [Bool.and_eq_true] at h
  have n1 := h.1
  have n2 := h.2
  unfold I7 at n1 n2
  rw [Bool.and_eq_true] at n1 n2
  exact ⟨a, b, r1.dp n1.1, r2.dp n2.1, m8 r1 h.1, m8 r2 h.2, f8 rs p (.bl _)⟩
 ·cases e
theorem a8M : CR G .Eq (gEq false) := ⟨rEqD G.K, fun X W k => by have := op_eqD (X := X) k.units; rw [k.K] at this; exact this, b6j _⟩
theorem b7I : CR G .NotEq (gEq true) := ⟨rNeD G.K, fun X W k => by have := op_neD (X := X) k.units; rw [k.K] at this; exact this, b6G _⟩
def b6t (p : Int → Int → Bool) : D → D → Option T
 | .int i, .int j => some (.val (.bool (p i j)))
 | _, _ => none
theorem a5I {K : PySem.W.Frag} {p : Int → Int → Bool} : OpD K (rI0 fun i j => .bl (p i j)) (b6t p) := by
 intro G W o c ρ S σ H x y a b t Q hK rs r1 r2 e q
 subst hK
 unfold b6t at e
 split at e
 ·cases e
  rw [r1.intV, r2.intV]
  exact ⟨_, _, rfl, rfl, f8 rs q (.bl _)⟩
 ·cases e
def gLt := b6t fun i j => decide (i < j)
def gGt := b6t fun i j => decide (j < i)
def gGe := b6t fun i j => decide (j ≤ i)
theorem a8U : CR G .Lt gLt := ⟨_, fun X W k => op_lt, a5I⟩
theorem b6k : CR G .Gt gGt := ⟨_, fun X W k => op_gt, a5I⟩
theorem b1z : CR G .GtE gGe := ⟨_, fun X W k => op_ge, a5I⟩
def keyOf : D → Option (Key ⊕ List Key)
 | .int i => some (.inl (.inl i))
 | .str x => some (.inl (.inr x))
 | .tuple ds => (keysOf ds).map .inr
 | _ => none
where
 keysOf : List D → Option (List Key)
  | [] => some []
  | .int i :: ds => (keysOf ds).map (.inl i :: ·)
  | .str x :: ds => (keysOf ds).map (.inr x :: ·)
  | _ :: _ => none
def a9m (kvs : List (D × D)) (k : Key ⊕ List Key) : Option D := (kvs.find? fun p => decide (keyOf p.1 = some k)).map (·.2)
def b5E (kvs : List (D × D)) (k : Key ⊕ List Key) (kd v : D) : List (D × D) :=
 if kvs.any (fun p => decide (keyOf p.1 = some k)) then kvs.map (fun p => if keyOf p.1 = some k then (p.1, v) else p) else kvs ++ [(kd, v)]
theorem a2O (k : Key) : keyOf (b0C k) = some (.inl k) := by cases k <;> rfl
theorem a3g {d : D} {k : Key} (h : keyOf d = some (.inl k)) : d = b0C k := by
 cases d with
 | int i => cases h; rfl
 | str x => cases h; rfl
 | tuple ds =>
  cases e : keyOf.keysOf ds with
  | none => simp only [keyOf, e, Option.map_none] at h; cases h
  | some l => simp only [keyOf, e, Option.map_some] at h; cases h
 | _ => cases h
theorem X1 {K : PySem.W.Frag} {o : Gh} {H : Hp} {κ : Type} [DecidableEq κ] (f : κ → D) (g : κ → Key ⊕ List Key) (hf : ∀ k, keyOf (f k) = some (g k)) (hg : ∀ a b, g a = g b → a = b) (k : κ) :
  ∀ (kvs : List (κ × V)) (ds : List D), RepAll K o H (kvs.map (·.2)) ds →
   (∀ d, a9m ((kvs.map (fun p => f p.1)).zip ds) (g k) = some d → ∃ v, valV kvs k = some v ∧ Rep K o H v d) ∧ (a9m ((kvs.map (fun p => f p.1)).zip ds) (g k) = none → valV kvs k = none)
 | [], ds, r => ⟨fun d h => by simp [a9m] at h, fun _ => rfl⟩
 | p :: kvs, [], r => by cases r
 | p :: kvs, d :: ds, r => by
  cases r with
  | cons _ _ _ _ r1 r2 =>
   obtain ⟨i1, i2⟩ := X1 f g hf hg k kvs ds r2
   have e1 : a9m (((p :: kvs).map (fun p => f p.1)).zip (d :: ds)) (g k) = if keyOf (f p.1) = some (g k) then some d else a9m ((kvs.map (fun p => f p.1)).zip ds) (g k) := by
    unfold a9m
    rw [List.map_cons, List.zip_cons_cons, List.find?_cons]
    by_cases h : keyOf (f p.1) = some (g k)
    ·rw [decide_eq_true h, if_pos h]; rfl
    ·rw [decide_eq_false h, if_neg h]
   rw [e1]
   by_cases h : p.1 = k
   ·have h' : keyOf (f p.1) = some (g k) := by rw [hf, h]
    rw [if_pos h']
    exact ⟨fun d' q => by cases q; exact ⟨p.2, valV_pos h, r1⟩, fun q => nomatch q⟩
   ·have h' : ¬ keyOf (f p.1) = some (g k) := fun z => by
     rw [hf] at z
     exact h (hg _ _ (Option.some.inj z))
    rw [if_neg h', valV_neg h]
    exact ⟨i1, i2⟩
def a2X : List Key → Option (List Int)
 | [] => some []
 | .inl i :: ks => (a2X ks).map (i :: ·)
 | _ :: _ => none
def F9 (ns : List Int) : Key ⊕ List Key := .inr (ns.map Sum.inl)
theorem b4f : ∀ a b : List Int, a.map (Sum.inl (β := Str)) = b.map Sum.inl → a = b := fun a b h => by
 induction a generalizing b with
 | nil => cases b with
  | nil => rfl
  | cons y b => cases h
 | cons x a ih => cases b with
  | nil => cases h
  | cons y b =>
   rw [List.map_cons, List.map_cons] at h
   injection h with h1 h2
   cases h1
   rw [ih b h2]
theorem J7 : ∀ a b : List Int, F9 a = F9 b → a = b := fun a b h => b4f a b (Sum.inr.inj h)
theorem w4 : ∀ ns : List Int, keyOf (.tuple (ns.map PyData.int)) = some (F9 ns) := fun ns => by
 have : keyOf.keysOf (ns.map PyData.int) = some (ns.map Sum.inl) := by
  induction ns with
  | nil => rfl
  | cons x ns ih =>
   show (keyOf.keysOf (ns.map PyData.int)).map _ = _
   rw [ih]
   rfl
 show (keyOf.keysOf (ns.map PyData.int)).map Sum.inr = _
 rw [this]
 rfl
theorem a05 : ∀ {ks : List Key} {ns : List Int}, a2X ks = some ns → ks = ns.map Sum.inl
 | [], ns, h => by cases h; rfl
 | .inl i :: ks, ns, h => by
  have h : (a2X ks).map (i :: ·) = some ns := h
  cases q : a2X ks with
  | none => rw [q] at h; cases h
  | some zs => rw [q] at h; cases h; rw [List.map_cons, a05 q]
 | .inr _ :: _, _, h => nomatch h
theorem a0d : ∀ {ds : List D} {ns : List Int}, keyOf.keysOf ds = some (ns.map Sum.inl) → ds = ns.map PyData.int
 | [], [], _ => rfl
 | [], _ :: _, h => by cases h
 | .int i :: ds, ns, h => by
  have h : (keyOf.keysOf ds).map (.inl i :: ·) = some (ns.map Sum.inl) := h
  cases q : keyOf.keysOf ds with
  | none => rw [q] at h; cases h
  | some zs =>
   rw [q] at h
   cases ns with
   | nil => cases h
   | cons n ns =>
    have h := Option.some.inj h
    rw [List.map_cons] at h
    injection h with h1 h2
    cases h1
    subst h2
    rw [List.map_cons, a0d q]
 | .str x :: ds, ns, h => by
  have h : (keyOf.keysOf ds).map (.inr x :: ·) = some (ns.map Sum.inl) := h
  cases q : keyOf.keysOf ds with
  | none => rw [q] at h; cases h
  | some zs =>
   rw [q] at h
   cases ns with
   | nil => cases h
   | cons n ns =>
    have h := Option.some.inj h
    rw [List.map_cons] at h
    injection h with h1 h2
    cases h1
 | .none :: _, _, h => nomatch h
 | .bool _ :: _, _, h => nomatch h
 | .list _ :: _, _, h => nomatch h
 | .tuple _ :: _, _, h => nomatch h
 | .dict _ :: _, _, h => nomatch h
theorem O4 {kd : D} {ns : List Int} (h : keyOf kd = some (F9 ns)) : kd = .tuple (ns.map PyData.int) := by
 cases kd with
 | tuple ds =>
  have h : (keyOf.keysOf ds).map Sum.inr = some (F9 ns) := h
  cases q : keyOf.keysOf ds with
  | none => rw [q] at h; cases h
  | some zs =>
   rw [q] at h
   have h := Option.some.inj h
   have h : zs = ns.map Sum.inl := Sum.inr.inj h
   subst h
   rw [a0d q]
 | int i => cases h
 | str x => cases h
 | none => cases h
 | bool _ => cases h
 | list _ => cases h
 | dict _ => cases h
section
variable {K : PySem.W.Frag} {H : Hp}
theorem KX.val {kvs : List (List Int × V)} {xs : List (List Int × Addr × Value)} (r : KX K H kvs xs) (k : List Int) : RelO (valV kvs k) ((atKey xs k).map (·.2)) := by
 induction r with
 | nil => exact True.intro
 | @cons p q ps qs h t ih =>
  obtain ⟨h1, _, h2⟩ := h
  by_cases e : p.1 = k
  ·have e' : q.1 = k := h1.symm.trans e
   have b : atKey (q :: qs) k = some q.2 := by simp [atKey, List.find?_cons, e']
   rw [valV_pos e, b]; exact h2
  ·have e' : ¬ q.1 = k := fun z => e (h1.trans z)
   have b : atKey (q :: qs) k = atKey qs k := by simp [atKey, List.find?_cons, e']
   rw [valV_neg e, b]; exact ih
theorem KX.repl {kvs : List (List Int × V)} {xs : List (List Int × Addr × Value)} (r : KX K H kvs xs) (k : List Int) {y : V} {u : Value} (ry : RelV y u) :
  KX K H (kvs.map fun kv => if kv.1 = k then (kv.1, y) else kv) (xs.map (putAt k u)) := by
 induction r with
 | nil => exact .nil
 | @cons p q ps qs h t ih =>
  rw [List.map_cons, List.map_cons]
  refine .cons ?_ ih
  obtain ⟨h1, h2, h3⟩ := h
  unfold putAt
  by_cases e : p.1 = k
  ·rw [if_pos e, if_pos (h1.symm.trans e)]; exact ⟨h1, h2, ry⟩
  ·rw [if_neg e, if_neg (fun z => e (h1.trans z))]; exact ⟨h1, h2, h3⟩
theorem KX.put {kvs : List (List Int × V)} {xs : List (List Int × Addr × Value)} (r : KX K H kvs xs) (k : List Int) {b : Addr} {y : V} {u : Value} (hb : SqT K H b (k.map V.int)) (ry : RelV y u) :
  KX K H (putK kvs k y) (storedH xs k b u) := by
 have e : (kvs.any fun kv => decide (kv.1 = k)) = (atKey xs k).isSome := by
  rw [valV_any, (r.val k).isSome_eq, Option.isSome_map]
 unfold putK storedH
 rw [e]
 by_cases q : (atKey xs k).isSome = true
 ·rw [if_pos q, if_pos q]; exact r.repl k ry
 ·rw [if_neg q, if_neg q]; exact Paired.snoc r ⟨rfl, hb, ry⟩
end
section
open PySem.Spec PyProof.Rows
variable {X : Cx} {pins : List (Addr × Obj)} {σ : L2.St} {H : Hp} {s : Shared} {a b : Addr} {v : V} {u r : Value} {A : Around} {E : Value → Shared → Prop} {kvs : List (List Int × V)} {xs : List (List Int × Addr × Value)} {k : List Int}
theorem a0V {P : Program} {w : World} : ∀ {ns : List Int} {us : List Value}, Vals (ns.map V.int) us → ItemsAre (PySem.intKind P w) ns us
 | [], _, r => by rw [List.map_nil] at r; cases r; exact .nil
 | k :: ks, _, r => by
  rw [List.map_cons] at r
  cases r with
  | cons h t =>
   obtain ⟨t', q⟩ := (show ∃ t, _ = Value.int k t from h)
   subst q
   exact .cons (by simp [PySem.intKind, Value.isInt]) (a0V t)
theorem b5u {P : Program} {w : World} (I : Inv X pins σ H s) (e : SqT X.K H b (k.map V.int)) : (tupleKind (PySem.intKind P w)).is s.heap k b := by
 obtain ⟨its, r, ⟨o, h1, h2, n, h3⟩, _⟩ := I.tuple e
 exact ⟨o, its.toArray, n, h1, h2, h3, by simpa using a0V r⟩
theorem dX (I : Inv X pins σ H s) (e : HX H a xs) (q : KX X.K H kvs xs) : s.heap.DictOfH (tupleKind (PySem.intKind X.prog X.w)) a xs := by
 obtain ⟨ep, e⟩ := e
 obtain ⟨⟨o, es, h1, h2, h3, h4, h5⟩, _⟩ := (show ObjOk X.prog X.w H s.heap a (.ext (tdf ep a xs)) from I.hok a _ e)
 refine ⟨o, es, ep, h1, h2, h3, h4, fun x hx => ?_, h5⟩
 have all : ∀ {l : List (List Int × V)} {m : List (List Int × Addr × Value)}, KX X.K H l m → ∀ x ∈ m, (tupleKind (PySem.intKind X.prog X.w)).is s.heap x.1 x.2.1 := by
  intro l m q
  induction q with
  | nil => intro x hx; exact nomatch hx
  | @cons p q ps qs hq t ih =>
   intro x hx
   rcases List.mem_cons.mp hx with e | hx
   ·subst e
    exact b5u I (by rw [← hq.1]; exact hq.2.1)
   ·exact ih x hx
 exact all q x hx
theorem c1n {Q : Value → Shared → Prop} (hu : A.units + 1 < cLine) (I : Inv X pins σ H s) (e : HX H a xs) (q : KX X.K H kvs xs) (hd : (a == sysModules) = false) (eb : SqT X.K H b (k.map V.int)) (h : ∀ s', Inv X pins σ H s' → Q (.bool (valV kvs k).isSome) s') :
  wpAny (model X.prog X.w) A (compareOp .In (.ref b) (.ref a)) Q E s := by
 refine wpAny_in_heap (tupleKind_room_in1 hu) (b5u I eb) hd (dX I e q) ?_
 have z := (q.val k).isSome_eq
 rw [Option.isSome_map] at z
 rw [← z]
 exact h _ (I.tok _)
theorem b4c {Q : Value → Shared → Prop} (hu : A.units + 1 < cLine) (I : Inv X pins σ H s) (e : HX H a xs) (q : KX X.K H kvs xs) (hd : (a == sysModules) = false) (eb : SqT X.K H b (k.map V.int)) (h : ∀ s', Inv X pins σ H s' → Q (.bool (!(valV kvs k).isSome)) s') :
  wpAny (model X.prog X.w) A (compareOp .NotIn (.ref b) (.ref a)) Q E s := by
 refine wpAny_notIn_heap (tupleKind_room_in1 hu) (b5u I eb) hd (dX I e q) ?_
 have z := (q.val k).isSome_eq
 rw [Option.isSome_map] at z
 rw [← z]
 exact h _ (I.tok _)
theorem b90 {Q : Unit → Shared → Prop} (hu : A.units + 1 < cLine) (I : Inv X pins σ H s) (e : HX H a xs) (q : KX X.K H kvs xs) (hl : xs.length ≤ sizeLine) (eb : SqT X.K H b (k.map V.int)) (rv : RelV v r)
  (h : ∀ ep s', Inv X pins σ (upd H a (.ext (tdf ep a (storedH xs k b r)))) s' → Q () s') : wpAny (model X.prog X.w) A (setItem (.ref a) (.ref b) r) Q E s := by
 refine wpAny_setItem_heap (hsz := hl) (tupleKind_room_in1 hu) (b5u I eb) (dX I e q) fun h' dd' hs => ?_
 obtain ⟨o, es, ep, hq, h2, h3, h4, _, h5⟩ := dd'
 exact h ep _ (d_write I (by obtain ⟨_, e⟩ := e; rw [e]; exact True.intro) hs ⟨o, hq⟩ ⟨⟨o, es, hq, h2, h3, h4, h5⟩, ⟨o, hq⟩, W8⟩)
end
def a2h : Key ⊕ List Key → Bool
 | .inr ks => (a2X ks).isSome
 | _ => false
theorem R8 {k : Key ⊕ List Key} (h : a2h k = true) : ∃ ns, k = F9 ns := by
 cases k with
 | inl k => cases h
 | inr ks =>
  have h : (a2X ks).isSome = true := h
  obtain ⟨ns, e⟩ := Option.isSome_iff_exists.mp h
  exact ⟨ns, by rw [a05 e]; rfl⟩
theorem X6 {K : PySem.W.Frag} {o : Gh} {H : Hp} : ∀ {us : List V} {ns : List Int}, RepAll K o H us (ns.map PyData.int) → us = ns.map V.int
 | _, [], .nil => rfl
 | _, n :: ns, r => by
  rw [List.map_cons] at r
  cases r with
  | cons v _ vs _ h1 h2 => rw [List.map_cons, h1.intV, X6 h2]
def b12 : Bool → Key ⊕ List Key → Bool
 | false, .inl _ => true
 | _, _ => false
def dAt (kvs : List (D × D)) (kd : D) : Option (Option D) := match keyOf kd with
 | some k => if b12 (unD kvs).1 k then some (a9m (unD kvs).2 k) else none
 | none => none
def GetR (K : PySem.W.Frag) (o : Gh) (H : Hp) (a : Addr) (y : V) : Option D → Prop
 | some d => ∃ v, DGet H a y (some v) ∧ Rep K o H v d
 | none => DGet H a y none
theorem GetR.of {K : PySem.W.Frag} {o : Gh} {H : Hp} {a : Addr} {y : V} {od : Option D} {r : Option V} (h1 : ∀ d, od = some d → ∃ v, r = some v ∧ Rep K o H v d) (h2 : od = none → r = none) (g : DGet H a y r) : GetR K o H a y od := by
 cases od with
 | some d =>
  obtain ⟨v, e, q⟩ := h1 d rfl
  subst e
  exact ⟨v, g, q⟩
 | none =>
  have e := h2 rfl
  subst e
  exact g
theorem c02 {K : PySem.W.Frag} {o : Gh} {H : Hp} {y : V} {k : Key} {d : D} (r2 : RepU K o H y d) (e : d = b0C k) : y = kV k := by
 cases k with
 | inl i => subst e; exact r2.intV
 | inr x => subst e; exact r2.strV.1
theorem b2X {K : PySem.W.Frag} {o : Gh} {H : Hp} {x y : V} {kvs : List (D × D)} {kd : D} {od : Option D} (r : RepU K o H x (.dict kvs)) (r2 : RepU K o H y kd) (h : dAt kvs kd = some od) :
  ∃ a, x = .ref a ∧ IsD H a ∧ GetR K o H a y od := by
 obtain ⟨q, a, ks, vs, ds, rfl, hd, _, hz, hl, ra, e⟩ := r.dctV
 have hu := hd.un (ds := ds)
 rw [← e] at hu
 unfold dAt at h
 cases ek : keyOf kd with
 | none => rw [ek] at h; cases h
 | some k =>
  rw [ek, hu] at h
  dsimp only at h
  cases q with
  | false =>
   cases k with
   | inr k => cases h
   | inl k =>
    obtain ⟨kvs', hr, rfl, rfl⟩ := hd
    have h' : a9m ((kvs'.map (fun p => b0C p.1)).zip ds) (.inl k) = od := Option.some.inj h
    have ev : y = kV k := c02 r2 (a3g ek)
    obtain ⟨g1, g2⟩ := X1 (fun k => b0C k) (fun k => .inl k) a2O (fun a b h => Sum.inl.inj h) k kvs' ds ra
    rw [h'] at g1 g2
    exact ⟨a, rfl, .inl ⟨kvs', hr⟩, .of g1 g2 (.inl ⟨kvs', k, hr, ev, rfl⟩)⟩
  | true =>
   cases k with
   | inl k => cases h
   | inr k => cases h
def a1o (K : PySem.W.Frag) (neg : Bool) : R2 := fun y x H Q => ∃ a, x = .ref a ∧ ((∃ o, DGet H a y o ∧ Q (.bl (if neg then !o.isSome else o.isSome)) H) ∨
 ∃ (kvs : List (List Int × V)) (xs : List (List Int × Addr × Value)) (b : Addr) (k : List Int), HX H a xs ∧ KX K H kvs xs ∧ (a == sysModules) = false ∧ y = .ref b ∧ SqT K H b (k.map V.int) ∧ Q (.bl (if neg then !(valV kvs k).isSome else (valV kvs k).isSome)) H)
theorem a8r {X : Cx} (hu : X.A.units + 1 < cLine) : OpR X (compareOp .In) (a1o X.K false) := by
 intro pins s σ H y x u v Q I ry rx h
 obtain ⟨a, rfl, h⟩ := h
 cases (show v = Value.ref a from rx)
 rcases h with ⟨o, g, q⟩ | ⟨kvs, xs, b, k, e, g, hd, ey, eb, q⟩
 ·exact d_in hu I g ry fun s' I' => ⟨.bl o.isSome, H, I', rfl, q⟩
 ·subst ey
  cases (show u = Value.ref b from ry)
  exact c1n hu I e g hd eb fun s' I' => ⟨.bl (valV kvs k).isSome, H, I', rfl, q⟩
theorem a1x {X : Cx} (hu : X.A.units + 1 < cLine) : OpR X (compareOp .NotIn) (a1o X.K true) := by
 intro pins s σ H y x u v Q I ry rx h
 obtain ⟨a, rfl, h⟩ := h
 cases (show v = Value.ref a from rx)
 rcases h with ⟨o, g, q⟩ | ⟨kvs, xs, b, k, e, g, hd, ey, eb, q⟩
 ·exact d_notIn hu I g ry fun s' I' => ⟨.bl (!o.isSome), H, I', rfl, q⟩
 ·subst ey
  cases (show u = Value.ref b from ry)
  exact b4c hu I e g hd eb fun s' I' => ⟨.bl (!(valV kvs k).isSome), H, I', rfl, q⟩
def a7b (kvs : List (D × D)) (kd : D) : Option (Option D) := match keyOf kd with
 | some k => if (b12 (unD kvs).1 k || ((unD kvs).1 && a2h k)) = true then some (a9m (unD kvs).2 k) else none
 | none => none
theorem b85 {K : PySem.W.Frag} {o : Gh} {H : Hp} {x y : V} {kvs : List (D × D)} {kd : D} {od : Option D} {neg : Bool} {Q : VK} (r : RepU K o H x (.dict kvs)) (r2 : RepU K o H y kd) (h : a7b kvs kd = some od) (q : Q (.bl (if neg then !od.isSome else od.isSome)) H) :
  a1o K neg y x H Q := by
 cases e0 : dAt kvs kd with
 | some od' =>
  obtain ⟨p, rfl, _, g⟩ := b2X r r2 e0
  have : od' = od := by
   unfold dAt at e0
   unfold a7b at h
   cases ek : keyOf kd with
   | none => rw [ek] at h; cases h
   | some k =>
    rw [ek] at h e0
    dsimp only at h e0
    split at e0
    ·rename_i hf
     cases e0
     rw [if_pos (by rw [hf]; rfl)] at h
     cases h
     rfl
    ·cases e0
  subst this
  refine ⟨p, rfl, .inl ?_⟩
  cases od' with
  | some d =>
   obtain ⟨v, g, _⟩ := g
   exact ⟨_, g, q⟩
  | none => exact ⟨_, g, q⟩
 | none =>
  obtain ⟨qq, a, ks, vs, ds, rfl, hd, _, hz, hl, ra, e⟩ := r.dctV
  have hu := hd.un (ds := ds)
  rw [← e] at hu
  unfold a7b at h
  unfold dAt at e0
  cases ek : keyOf kd with
  | none => rw [ek] at h; cases h
  | some k =>
   rw [ek, hu] at h e0
   dsimp only at h e0
   have hf : ¬ b12 qq k = true := fun z => by rw [if_pos z] at e0; cases e0
   split at h
   ·rename_i hc
    rw [Bool.or_eq_true, Bool.and_eq_true] at hc
    rcases hc with hc | ⟨hq, hc⟩
    ·exact absurd hc hf
    ·subst hq
     obtain ⟨ns, rfl⟩ := R8 hc
     have h' := Option.some.inj h
     obtain ⟨kvs', xs, hH, kx, hs, rfl, rfl⟩ := hd
     have ey := O4 ek
     subst ey
     obtain ⟨b, us, rfl, sb, _, rb⟩ := r2.tupV
     have eu : us = ns.map V.int := X6 rb
     subst eu
     obtain ⟨g1, g2⟩ := X1 (fun k => .tuple (k.map PyData.int)) F9 w4 J7 ns kvs' ds ra
     rw [h'] at g1 g2
     have hv : (valV kvs' ns).isSome = od.isSome := by
      cases od with
      | some d => obtain ⟨v, e1, _⟩ := g1 d rfl; rw [e1]; rfl
      | none => rw [g2 rfl]; rfl
     refine ⟨a, rfl, .inr ⟨kvs', xs, b, ns, hH, kx, hs, rfl, sb, ?_⟩⟩
     rw [hv]
     exact q
   ·cases h
def M2 : D → Bool
 | .none => true
 | .bool _ => true
 | .int _ => true
 | .str _ => true
 | _ => false
theorem a1Y {K : PySem.W.Frag} {o : Gh} {H : Hp} {v : V} {d : D} (r : RepU K o H v d) (h : M2 d = true) : flatV v = true := by
 cases r with
 | of _ _ r => cases r <;> first | rfl | cases h
 | lst => cases h
 | dct => cases h
theorem a1i {K : PySem.W.Frag} {o : Gh} {H : Hp} : ∀ {vs : List V} {ds : List D}, RepAll K o H vs ds → ds.all M2 = true → vs.all flatV = true
 | _, _, .nil, _ => rfl
 | _, _, .cons v d vs ds r ra, h => by
  rw [List.all_cons, Bool.and_eq_true] at h ⊢
  exact ⟨a1Y (.of _ _ r) h.1, a1i ra h.2⟩
theorem b3B {K : PySem.W.Frag} {o : Gh} {H : Hp} {v w : V} {d e : D} (r : Rep K o H v d) (r' : RepU K o H w e) (h : M2 d = true) (h' : M2 e = true) : eqV v w = PyData.eqv d e := by
 cases r' with
 | lst => cases h'
 | dct => cases h'
 | of _ _ r' => cases r <;> cases r' <;> first | rfl | (cases h; done) | (cases h'; done) | (simp [eqV, PyData.eqv]; done)
def gIn (neg : Bool) : D → D → Option T
 | a, .list ds => if (M2 a && ds.all M2) || (I7 a && I7 (.list ds)) then some (.val (.bool (if neg then !(ds.any fun d => PyData.eqv d a) else ds.any fun d => PyData.eqv d a))) else none
 | a, .tuple ds => if (M2 a && ds.all M2) || (I7 a && I7 (.tuple ds)) then some (.val (.bool (if neg then !(ds.any fun d => PyData.eqv d a) else ds.any fun d => PyData.eqv d a))) else none
 | kd, .dict kvs => (a7b kvs kd).map fun o => .val (.bool (if neg then !o.isSome else o.isSome))
 | .str x, .str y => if x.length = 1 then some (.val (.bool (if neg then !decide (x.cps.getD 0 0 ∈ y.cps.toList) else decide (x.cps.getD 0 0 ∈ y.cps.toList)))) else none
 | _, _ => none
theorem a45 {K : PySem.W.Frag} {o : Gh} {H : Hp} {v : V} {d : D} (r : RepU K o H v d) (h : M2 d = true) : ∀ {vs : List V} {ds : List D}, RepAll K o H vs ds → ds.all M2 = true → inV v vs = ds.any fun e => PyData.eqv e d
 | _, _, .nil, _ => rfl
 | _, _, .cons w e vs ds r' ra, q => by
  rw [List.all_cons, Bool.and_eq_true] at q
  have ih := a45 r h ra q.2
  unfold inV at ih ⊢
  rw [List.any_cons, List.any_cons, ih, b3B r' r q.1 h]
theorem b1H {x : Str} (h : x.length = 1) : x = ⟨#[x.cps.getD 0 0]⟩ := by
 obtain ⟨⟨l⟩⟩ := x
 match l, h with
 | [c], _ => rfl
def b95 (K : PySem.W.Frag) (neg : Bool) : R2 := fun x y H Q => ∃ (a : Addr) (d : PyData) (ds : List PyData), y = .ref a ∧ ((Dp K H (V.ref a) (.list ds) ∧ SeqAt.shaped (.list ds) = true) ∨ (Dp K H (V.ref a) (.tuple ds) ∧ SeqAt.shaped (.tuple ds) = true)) ∧ Dp K H x d ∧ SeqAt.shaped d = true ∧
 Q (.bl (if neg then !(ds.any fun e => PyData.eqv e d) else ds.any fun e => PyData.eqv e d)) H
theorem Q5 {X : Cx} {pins : List (Addr × Obj)} {s : Shared} {σ : St} {H : Hp} (I : Inv X pins σ H s) (hu : X.A.units + 65 < cLine) {x : V} {v : Value} {d : PyData} {ds : List PyData} {vs : List V} {its : List Value} (hy : Dp X.K H x d) (rx : RelV x v) (sd : SeqAt.shaped d = true)
  (hxs : PyData.canLayAll0 ds = true) (ha : DpAll X.K H vs ds) (rv : Vals vs its) :
  (∀ u ∈ its.toArray, SeqAt.EqAt X.A.in1 s u v (PyData.eqv (SeqAt.readOf s.heap u) d)) ∧ (its.toArray.any fun u => PyData.eqv (SeqAt.readOf s.heap u) d) = ds.any fun e => PyData.eqv e d := by
 obtain ⟨bs, r1⟩ := Dp.reads I d x v hy rx
 obtain ⟨as, h4⟩ := Dp.readsAll I ds _ its ha rv
 have hm : its.map (SeqAt.readOf s.heap) = ds := SeqAt.readsAll_map ds its as hxs h4
 refine ⟨SeqAt.items_eqAt (vs := its.toArray) (show ReadsAll s.heap its.toArray.toList ds as from h4) r1 hxs (SeqAt.canLay_of_shaped sd) (PyProof.Rows.room_in_shaped sd hu), ?_⟩
 rw [← hm, List.any_map]
 simp only [List.any_toArray]
 rfl
theorem b6U {X : Cx} (hu : X.A.units + 65 < cLine) : OpR X (compareOp .In) (b95 X.K false) := by
 intro pins s σ H x y v u Q I rx ry hq
 obtain ⟨b, d, ds, rfl, hb, hx, sd, q⟩ := hq
 cases (show u = Value.ref b from ry)
 rcases hb with ⟨hb, sb⟩ | ⟨hb, sb⟩
 ·cases hb with
  | lst hs ha =>
   obtain ⟨its, rv, pl, _⟩ := I.list hs
   obtain ⟨g1, g2⟩ := Q5 I hu hx rx sd (SeqAt.canLay_of_shaped sb) ha rv
   refine SeqAt.in_listAt _ pl.isList g1 ⟨.bl _, H, I, rfl, ?_⟩
   rw [g2]
   exact q
 ·cases hb with
  | tup hs ha =>
   obtain ⟨its, rv, pl, _⟩ := I.tuple hs
   obtain ⟨g1, g2⟩ := Q5 I hu hx rx sd (SeqAt.canLay_of_shaped sb) ha rv
   refine SeqAt.in_tupleAt _ pl g1 ⟨.bl _, H, I, rfl, ?_⟩
   rw [g2]
   exact q
theorem a9E {X : Cx} (hu : X.A.units + 65 < cLine) : OpR X (compareOp .NotIn) (b95 X.K true) := by
 intro pins s σ H x y v u Q I rx ry hq
 obtain ⟨b, d, ds, rfl, hb, hx, sd, q⟩ := hq
 cases (show u = Value.ref b from ry)
 rcases hb with ⟨hb, sb⟩ | ⟨hb, sb⟩
 ·cases hb with
  | lst hs ha =>
   obtain ⟨its, rv, pl, _⟩ := I.list hs
   obtain ⟨g1, g2⟩ := Q5 I hu hx rx sd (SeqAt.canLay_of_shaped sb) ha rv
   refine SeqAt.notIn_listAt _ pl.isList g1 ⟨.bl _, H, I, rfl, ?_⟩
   rw [g2]
   exact q
 ·cases hb with
  | tup hs ha =>
   obtain ⟨its, rv, pl, _⟩ := I.tuple hs
   obtain ⟨g1, g2⟩ := Q5 I hu hx rx sd (SeqAt.canLay_of_shaped sb) ha rv
   refine SeqAt.notIn_tupleAt _ pl g1 ⟨.bl _, H, I, rfl, ?_⟩
   rw [g2]
   exact q
def b83 (K : PySem.W.Frag) (neg : Bool) : R2 := fun x y H Q => ((rIn K neg x y H Q ∨ a1o K neg x y H Q) ∨ b95 K neg x y H Q) ∨ ∃ (c : Nat) (z : Str), x = .str ⟨#[c]⟩ ∧ y = .str z ∧ Q (.bl (if neg then !decide (c ∈ z.cps.toList) else decide (c ∈ z.cps.toList))) H
theorem b3p (K : PySem.W.Frag) (neg : Bool) : OpD K (b83 K neg) (gIn neg) := by
 intro G W o c ρ S σ H x y a b t Q hK rs r1 r2 e q
 subst hK
 unfold gIn at e
 split at e
 ·split at e
  ·cases e
   rename_i h
   rw [Bool.or_eq_true, Bool.and_eq_true, Bool.and_eq_true] at h
   rcases h with h | h
   ·obtain ⟨a2, v2, e2, h2, n2, z2, q2⟩ := r2.lstV
    rw [e2]
    refine .inl (.inl (.inl ⟨a2, v2, rfl, .inl (.of h2), a1Y r1 h.1, a1i q2 h.2, ?_⟩))
    rw [a45 r1 h.1 q2 h.2]
    exact f8 rs q (.bl _)
   ·have n1 := h.1
    have n2 := h.2
    unfold I7 at n1 n2
    rw [Bool.and_eq_true] at n1 n2
    obtain ⟨a2, v2, e2, _⟩ := r2.lstV
    subst e2
    exact .inl (.inr ⟨a2, _, _, rfl, .inl ⟨r2.dp n2.1, m8 r2 h.2⟩, r1.dp n1.1, m8 r1 h.1, f8 rs q (.bl _)⟩)
  ·cases e
 ·split at e
  ·cases e
   rename_i h
   rw [Bool.or_eq_true, Bool.and_eq_true, Bool.and_eq_true] at h
   rcases h with h | h
   ·obtain ⟨a2, v2, e2, h2, z2, q2⟩ := r2.tupV
    rw [e2]
    refine .inl (.inl (.inl ⟨a2, v2, rfl, .inr h2, a1Y r1 h.1, a1i q2 h.2, ?_⟩))
    rw [a45 r1 h.1 q2 h.2]
    exact f8 rs q (.bl _)
   ·have n1 := h.1
    have n2 := h.2
    unfold I7 at n1 n2
    rw [Bool.and_eq_true] at n1 n2
    obtain ⟨a2, v2, e2, _⟩ := r2.tupV
    subst e2
    exact .inl (.inr ⟨a2, _, _, rfl, .inr ⟨r2.dp n2.1, m8 r2 h.2⟩, r1.dp n1.1, m8 r1 h.1, f8 rs q (.bl _)⟩)
  ·cases e
 ·rename_i kvs
  cases e1 : a7b kvs a with
  | none => rw [e1] at e; cases e
  | some od =>
   rw [e1] at e
   cases e
   exact .inl (.inl (.inr (b85 r2 r1 e1 (f8 rs q (.bl _)))))
 ·split at e
  ·cases e
   rename_i h
   obtain ⟨e1, o1, l1⟩ := r1.strV
   obtain ⟨e2, o2, l2⟩ := r2.strV
   rw [e1, e2]
   exact .inr ⟨_, _, by rw [← b1H h], rfl, f8 rs q (.bl _)⟩
  ·cases e
 ·cases e
theorem a7u (k : G.Ok X W) : X.A.units + 65 < cLine := by
 have := k.room.un
 omega
theorem b9a : CR G .In (gIn false) := ⟨b83 G.K false, fun X W k => by
 have h := op_in_seq (X := X)
 have h2 := b6U (X := X) (a7u k)
 have h3 := a8r (X := X) (by have := k.units; omega)
 rw [k.K] at h h2 h3
 exact ((h.or h3).or h2).or op_in_sign, b3p _ _⟩
theorem b1x : CR G .NotIn (gIn true) := ⟨b83 G.K true, fun X W k => by
 have h := op_notIn_seq (X := X)
 have h2 := a9E (X := X) (a7u k)
 have h3 := a1x (X := X) (by have := k.units; omega)
 rw [k.K] at h h2 h3
 exact ((h.or h3).or h2).or op_notIn_sign, b3p _ _⟩
def isNone : D → Bool
 | .none => true
 | _ => false
def b2B : D → Option T := fun d => some (.val (.bool (isNone d)))
def V0 : D → Option T := fun d => some (.val (.bool (!isNone d)))
theorem a0N {K : PySem.W.Frag} {o : Gh} {H : Hp} {v : V} {d : D} (r : RepU K o H v d) : decide (v = .non) = isNone d := by
 cases r with
 | of _ _ r => cases r <;> rfl
 | lst => rfl
 | dct => rfl
end
end BV
namespace BV
open PySem L2

def b1j : D → Option Bool
 | .none => some false
 | .bool b => some b
 | .int i => some (i != 0)
 | .str x => some (x.length != 0)
 | .list xs => some (!xs.isEmpty)
 | .tuple xs => some (!xs.isEmpty)
 | .dict _ => none
theorem a21 {K : PySem.W.Frag} {o : Gh} {H : Hp} {vs : List V} {ds : List D} (r : RepAll K o H vs ds) : vs.isEmpty = ds.isEmpty := by
 cases r <;> rfl
theorem b46 {K : PySem.W.Frag} {o : Gh} {H : Hp} {v : V} {d : D} {b : Bool} (r : RepU K o H v d) (h : b1j d = some b) : TruV K v H b := by
 cases d with
 | none => cases h; rw [r.nonV]; rfl
 | bool c => cases h; rw [r.blV]; rfl
 | int i => cases h; rw [r.intV]; rfl
 | str x =>
  obtain ⟨e, _, z⟩ := r.strV
  cases h
  rw [e]
  refine ⟨z, ?_⟩
  rw [Bool.eq_iff_iff]
  simp
 | list xs =>
  obtain ⟨a, vs, e, h1, _, _, ra⟩ := r.lstV
  cases h
  rw [e]
  exact .inl ⟨vs, .of h1, by rw [a21 ra]⟩
 | tuple xs =>
  obtain ⟨a, vs, e, h1, _, ra⟩ := r.tupV
  cases h
  rw [e]
  exact .inr (.inl ⟨vs, h1, by rw [a21 ra]⟩)
 | dict _ => cases h

abbrev SB := En → Sto → R Bool
def PostB (G : Cc) (W : WX) (o : Gh) (c : Cs) (ρ : En) (σ : L2.St) (H : Hp) (r : R Bool) (Q : Bool → Hp → Prop) : Prop := match r with
 | .ok b S' => ∀ o' c' H', Step c9 o c H o' c' H' → NT o' → RS G.K o' c' ρ S' σ H' → Q b H'
 | .exc e S' => ∀ cls d o' c' H', Step c9 o c H o' c' H' → RS G.K o' c' ρ S' σ H' → NT o' → b1f G.mg H' cls d e → W cls d σ H'
 | .bad => False
def TR (G : Cc) (W : WX) (t : TT) (f : SB) : Prop := ∀ (σ : L2.St) (H : Hp) (ρ : En) (S : Sto) (o : Gh) (c : Cs) (Q : Bool → Hp → Prop), NT o → RS G.K o c ρ S σ H → PostB G W o c ρ σ H (f ρ S) Q → t σ H Q
def TV (G : Cc) (e : Expr) (f : SB) : Prop := ∃ t : WX → TT, (∀ X W, G.Ok X W → PT X e (t W)) ∧ ∀ W, TR G W (t W) f
def WV (G : Cc) (e : Expr) (f : SB) : Prop := ∃ t : WX → TT, (∀ X W, G.Ok X W → PW X e (t W)) ∧ ∀ W, TR G W (t W) f
def R.b (r : R T) : R Bool := match r with
 | .ok t S => (match asD t with | some (.bool b) => .ok b S | _ => .bad)
 | .exc e S => .exc e S
 | .bad => .bad
def R.tr (r : R T) : R Bool := match r with
 | .ok t S => (match (asD t).bind b1j with | some b => .ok b S | none => .bad)
 | .exc e S => .exc e S
 | .bad => .bad
def cT (f : SE) : SB := fun ρ S => (f ρ S).tr
section
variable {G : Cc} {W : WX} {o o1 : Gh} {c c1 : Cs} {ρ : En} {σ : L2.St} {H H1 : Hp} {pos : Pos} {a b : Expr} {f1 f2 f3 : SE} {g1 g2 : SB} {e : Expr}
theorem PostB.step {r : R Bool} {Q : Bool → Hp → Prop} (a : Step c9 o c H o1 c1 H1) (h : PostB G W o c ρ σ H r Q) : PostB G W o1 c1 ρ σ H1 r Q := by
 cases r with
 | ok t S' => exact fun o' c' H' s => h o' c' H' (a.trans s)
 | exc e S' => exact fun cls d o' c' H' s => h cls d o' c' H' (a.trans s)
 | bad => exact h
theorem TR.of {t : TE} {f : SE} (h : URd G W t f) : TR G W (fun σ H Q => t σ H fun x H' => ∃ k, TruV G.K x H' k ∧ Q k H') (cT f) := by
 intro σ H ρ S o c Q nt rs p
 refine h σ H ρ S o c _ nt rs ?_
 unfold cT at p
 cases e : f ρ S with
 | bad => rw [e] at p; exact p.elim
 | exc e' S' => rw [e] at p; exact p
 | ok t0 S' =>
  rw [e] at p
  cases e1 : asD t0 with
  | none => unfold R.tr at p; simp only [e1, Option.bind_none] at p; exact p.elim
  | some d0 =>
   refine ⟨d0, e1, ?_⟩
   cases e2 : b1j d0 with
   | none => unfold R.tr at p; simp only [e1, Option.bind_some, e2] at p; exact p.elim
   | some b0 =>
    have p' : PostB G W o c ρ σ H (.ok b0 S') Q := by unfold R.tr at p; simp only [e1, Option.bind_some, e2] at p; exact p
    exact fun v o1 c1 H1 s1 nt1 rs1 r1 => ⟨b0, b46 r1 e2, p' o1 c1 H1 s1 nt1 rs1⟩
def cB (f : SE) : SB := fun ρ S => (f ρ S).b
theorem TR.test {t : TE} {f : SE} (h : ER G W t f) : TR G W (tTest t) (cB f) := by
 intro σ H ρ S o c Q nt rs p
 refine h σ H ρ S o c _ nt rs ?_
 unfold cB at p
 cases e : f ρ S with
 | bad => rw [e] at p; exact p.elim
 | exc e' S' => rw [e] at p; exact p
 | ok t0 S' =>
  rw [e] at p
  intro v o' c' H' s rs' r'
  cases e1 : asD t0 with
  | none => unfold R.b at p; simp only [e1] at p; exact p.elim
  | some d0 =>
   have r2 := r'.toD rs'.cs.trk e1
   cases d0 with
   | bool b =>
    have p' : PostB G W o c ρ σ H (.ok b S') Q := by unfold R.b at p; simp only [e1] at p; exact p
    exact ⟨b, r2.blV, p' (unT o') c' H' (s.untmp nt) B7 rs'.untmp⟩
   | _ => unfold R.b at p; simp only [e1] at p; exact p.elim
theorem a1D (h : UV G e f1) (he : ∀ env whole, isTrue e env whole = (do let v ← whole; standAt e.pos; holding [v] (truthy v)) := by intro _ _; rfl) : TV G e (cT f1) := by
 obtain ⟨t, p, q⟩ := h
 refine ⟨fun W σ H Q => t W σ H fun x H' => ∃ k, TruV G.K x H' k ∧ Q k H', fun X W k => ?_, fun W => .of (q W)⟩
 have := pt_truth (p X W k) (he _)
 rw [k.K] at this
 exact this
theorem t7 {op : CmpOp} {g : D → D → Option T} (hr : CR G op g) (h1 : UV G a f1) (h2 : UV G b f2) (hm : behindInMarks op b = false := by rfl) : TV G (.Compare a [op] [b] pos) (cB (d9 g f1 f2)) := by
 obtain ⟨t1, p1, q1⟩ := h1
 obtain ⟨t2, p2, q2⟩ := h2
 obtain ⟨r, ho, hr⟩ := hr
 exact ⟨fun W => tTest (tOp r (t1 W) (t2 W)), fun X W k => pt_cmpR (ho X W k) (p1 X W k) (p2 X W k) hm, fun W => .test (a6B (q1 W) (q2 W) hr)⟩
theorem b7f {W : WX} {t1 : TE} (h : URd G W t1 f1) : ER G W (tIsN t1) (cUn b2B f1) := by
 intro σ H ρ S o c Q nt rs p
 refine h.d nt rs p fun a S1 v1 o1 c1 H1 s1 nt1 rs1 r1 p1 => ?_
 rw [a0N r1]
 exact f8 rs1 p1 (.bl _)
theorem b3T {W : WX} {t1 : TE} (h : URd G W t1 f1) : ER G W (tNotN t1) (cUn V0 f1) := by
 intro σ H ρ S o c Q nt rs p
 refine h.d nt rs p fun a S1 v1 o1 c1 H1 s1 nt1 rs1 r1 p1 => ?_
 rw [a0N r1]
 exact f8 rs1 p1 (.bl _)
theorem a7A {j : Nat} {pos' : Pos} (h1 : UV G a f1) : TV G (.Compare a [.Is] [.Constant .none j pos'] pos) (cB (cUn b2B f1)) := by
 obtain ⟨t1, p1, q1⟩ := h1
 exact ⟨fun W => tB (tIsN (t1 W)), fun X W k => pt_cmp (pc_isN (p1 X W k)) rfl, fun W => .test (b7f (q1 W))⟩
theorem T5 {j : Nat} {pos' : Pos} (h1 : UV G a f1) : TV G (.Compare a [.IsNot] [.Constant .none j pos'] pos) (cB (cUn V0 f1)) := by
 obtain ⟨t1, p1, q1⟩ := h1
 exact ⟨fun W => tB (tNotN (t1 W)), fun X W k => pt_cmp (pc_notN (p1 X W k)) rfl, fun W => .test (b3T (q1 W))⟩
def b1e (g1 g2 : SB) : SB := fun ρ S => R.l (g1 ρ S) fun b S1 => if b = true then g2 ρ S1 else .ok false S1
def bOr (g1 g2 : SB) : SB := fun ρ S => R.l (g1 ρ S) fun b S1 => if b = true then .ok true S1 else g2 ρ S1
def b6l (g1 : SB) : SB := fun ρ S => R.l (g1 ρ S) fun b S1 => .ok (!b) S1
theorem TR.l {t : TT} (h : TR G W t g1) {S : Sto} {k : Bool → Sto → R Bool} {Q Q0 : Bool → Hp → Prop} (nt : NT o) (rs : RS G.K o c ρ S σ H) (p : PostB G W o c ρ σ H (R.l (g1 ρ S) k) Q0)
  (q : ∀ b S1 o1 c1 H1, Step c9 o c H o1 c1 H1 → NT o1 → RS G.K o1 c1 ρ S1 σ H1 → PostB G W o1 c1 ρ σ H1 (k b S1) Q0 → Q b H1) : t σ H Q := by
 refine h σ H ρ S o c Q nt rs ?_
 cases e : g1 ρ S with
 | ok b S1 => rw [e] at p; exact fun o' c' H' s nt' rs' => q b S1 o' c' H' s nt' rs' (PostB.step s p)
 | exc e S1 => rw [e] at p; exact p
 | bad => rw [e] at p; exact p
theorem TR.ee {t : TT} (h : TR G W t g1) {S : Sto} {k : Bool → Sto → R T} {Q : Bool → Hp → Prop} {Q0 : VK} (nt : NT o) (rs : RS G.K o c ρ S σ H) (p : PostE G W o c ρ σ H (R.l (g1 ρ S) k) Q0)
  (q : ∀ b S1 o1 c1 H1, Step c9 o c H o1 c1 H1 → NT o1 → RS G.K o1 c1 ρ S1 σ H1 → PostE G W o1 c1 ρ σ H1 (k b S1) Q0 → Q b H1) : t σ H Q := by
 refine h σ H ρ S o c Q nt rs ?_
 cases e : g1 ρ S with
 | ok b S1 => rw [e] at p; exact fun o' c' H' s nt' rs' => q b S1 o' c' H' s nt' rs' (PostE.step s p)
 | exc e S1 => rw [e] at p; exact p
 | bad => rw [e] at p; exact p
theorem WV.t (h : WV G e g1) : TV G e g1 := by
 obtain ⟨t, p, q⟩ := h
 exact ⟨t, fun X W k => (p X W k).pt, q⟩
theorem U4 (h : TV G a g1) : WV G (.BoolOp .And [a] pos) g1 := by
 obtain ⟨t, p, q⟩ := h
 exact ⟨t, fun X W k => pw_and1 (p X W k), q⟩
theorem a6g (h : TV G a g1) : WV G (.BoolOp .Or [a] pos) g1 := by
 obtain ⟨t, p, q⟩ := h
 exact ⟨t, fun X W k => pw_or1 (p X W k), q⟩
theorem a0P {rest : List Expr} (h1 : TV G a g1) (h2 : WV G (.BoolOp .And (b :: rest) pos) g2) : WV G (.BoolOp .And (a :: b :: rest) pos) (b1e g1 g2) := by
 obtain ⟨t1, p1, q1⟩ := h1
 obtain ⟨t2, p2, q2⟩ := h2
 refine ⟨fun W => tAnd (t1 W) (t2 W), fun X W k => pw_and (p1 X W k) (p2 X W k), fun W σ H ρ S o c Q nt rs p => ?_⟩
 refine (q1 W).l nt rs p fun b S1 o1 c1 H1 s1 nt1 rs1 p1 => ?_
 cases b with
 | true => rw [if_pos rfl] at p1 ⊢; exact q2 W σ H1 ρ S1 o1 c1 Q nt1 rs1 p1
 | false => rw [if_neg Bool.false_ne_true] at p1 ⊢; exact p1 o1 c1 H1 Step.refl nt1 rs1
theorem b0m {rest : List Expr} (h1 : TV G a g1) (h2 : WV G (.BoolOp .Or (b :: rest) pos) g2) : WV G (.BoolOp .Or (a :: b :: rest) pos) (bOr g1 g2) := by
 obtain ⟨t1, p1, q1⟩ := h1
 obtain ⟨t2, p2, q2⟩ := h2
 refine ⟨fun W => tOr (t1 W) (t2 W), fun X W k => pw_or (p1 X W k) (p2 X W k), fun W σ H ρ S o c Q nt rs p => ?_⟩
 refine (q1 W).l nt rs p fun b S1 o1 c1 H1 s1 nt1 rs1 p1 => ?_
 cases b with
 | false => rw [if_neg Bool.false_ne_true] at p1 ⊢; exact q2 W σ H1 ρ S1 o1 c1 Q nt1 rs1 p1
 | true => rw [if_pos rfl] at p1 ⊢; exact p1 o1 c1 H1 Step.refl nt1 rs1
theorem b2K (h1 : TV G a g1) : TV G (.UnaryOp .Not a pos) (b6l g1) := by
 obtain ⟨t1, p1, q1⟩ := h1
 refine ⟨fun W => tNot (t1 W), fun X W k => pt_not (p1 X W k), fun W σ H ρ S o c Q nt rs p => ?_⟩
 exact (q1 W).l nt rs p fun b S1 o1 c1 H1 s1 nt1 rs1 p1 => p1 o1 c1 H1 Step.refl nt1 rs1

end
end BV
namespace BV
open PySem L2

def a1j : List T → Option (List D)
 | [] => some []
 | .val d :: ts => (a1j ts).map (d :: ·)
 | _ :: _ => none
theorem RepTs.all {K : PySem.W.Frag} {o : Gh} {c : Cs} {H : Hp} : ∀ {vs : List V} {ts : List T} {ds : List D}, RepTs K o c H vs ts → a1j ts = some ds → RepAll K o H vs ds
 | [], [], _, _, e => by cases e; exact .nil
 | v :: vs, [], _, r, _ => by have := r.1; simp at this
 | [], t :: ts, _, r, _ => by have := r.1; simp at this
 | v :: vs, t :: ts, ds, r, e => by
  have h0 := (r.2 0 v t rfl rfl).1
  cases t with
  | val d =>
   cases e1 : a1j ts with
   | none => simp only [a1j, e1, Option.map_none] at e; cases e
   | some es =>
    simp only [a1j, e1, Option.map_some] at e
    cases e
    exact .cons v d vs es h0 (RepTs.all ⟨by have := r.1; simpa using this, fun i v t e1 e2 => r.2 (i + 1) v t (by simpa using e1) (by simpa using e2)⟩ e1)
  | _ => cases e
def n9 (fs : SA) : SE := fun ρ S => R.l (fs ρ S) fun ts S1 => match a1j ts with | some ds => if ds.length ≤ sizeLine then .ok (.own ds) S1 else .bad | none => .bad
def Y1 (fs : SA) : SE := fun ρ S => R.l (fs ρ S) fun ts S1 => match a1j ts with | some ds => if ds.length ≤ sizeLine then .ok (.val (.tuple ds)) S1 else .bad | none => .bad
section
variable {G : Cc} {W : WX} {o o1 : Gh} {c c1 : Cs} {ρ : En} {σ : L2.St} {H H1 : Hp} {pos : Pos} {a b : Expr} {f1 f2 f3 : SE} {g1 g2 : SB} {e : Expr} {es : List Expr} {fs : SA}
theorem l6 (h : AV G es fs) : EV G (.List es pos) (n9 fs) := by
 obtain ⟨t, p, q⟩ := h
 refine ⟨fun W => tLst (t W), fun X W k => pe_lst (p X W k), fun W σ H ρ S o c Q nt rs ps => ?_⟩
 refine (q W).d nt rs ps fun ts S1 vs o1 c1 H1 s1 nt1 rs1 r1 p1 => ?_
 cases e : a1j ts with
 | none => rw [e] at p1; exact p1.elim
 | some ds =>
  rw [e] at p1
  have ra := r1.all e
  by_cases z : ds.length ≤ sizeLine
  ·simp only [if_pos z] at p1
   have z' : vs.length ≤ sizeLine := by rw [ra.length]; exact z
   exact ⟨z', fun q n => C6 rs1 p1 n z' ra⟩
  ·simp only [if_neg z] at p1; exact p1.elim
theorem D4 {k : Nat} (h : AV G es fs) : EV G (.Tuple es k pos) (Y1 fs) := by
 obtain ⟨t, p, q⟩ := h
 refine ⟨fun W => tTup (t W), fun X W k => pe_tup (p X W k), fun W σ H ρ S o c Q nt rs ps => ?_⟩
 refine (q W).d nt rs ps fun ts S1 vs o1 c1 H1 s1 nt1 rs1 r1 p1 => ?_
 cases e : a1j ts with
 | none => rw [e] at p1; exact p1.elim
 | some ds =>
  rw [e] at p1
  have ra := r1.all e
  by_cases z : ds.length ≤ sizeLine
  ·simp only [if_pos z] at p1
   have z' : vs.length ≤ sizeLine := by rw [ra.length]; exact z
   exact ⟨z', fun q n => X3 rs1 p1 n z' ra⟩
  ·simp only [if_neg z] at p1; exact p1.elim

theorem RepAll.atI {K : PySem.W.Frag} {o : Gh} {H : Hp} {vs : List V} {ds : List D} {i : Int} {d : D} (r : RepAll K o H vs ds) (h : atI ds i = some d) : ∃ v, L2.atI vs i = some v ∧ Rep K o H v d := by
 unfold L2.atI at h ⊢
 rw [r.length]
 cases e : ixN ds.length i with
 | none => rw [e] at h; cases h
 | some j =>
  rw [e] at h
  exact r.get h
def gIx : D → D → Option T
 | .list xs, .int i => (atI xs i).map T.val
 | .tuple xs, .int i => (atI xs i).map T.val
 | .str x, .int i => (atI x.cps.toList i).map fun c => .val (.str ⟨#[c]⟩)
 | .dict kvs, k => (dAt kvs k).bind fun o => o.map T.val
 | _, _ => none
section
open PySem.Spec PyProof.Rows
def b06 : R2 := fun x y H Q => ∃ a v, x = .ref a ∧ DGet H a y (some v) ∧ Q v H
theorem b4l {X : Cx} (hu : X.A.units + 1 < cLine) : IxR X b06 := by
 intro value slice pins s σ H x y v u Q I rx ry h hs
 obtain ⟨a, w, rfl, g, q⟩ := h
 cases (show v = Value.ref a from rx)
 have hT := dict_typeIs I g
 unfold subscriptTail
 refine wpAny_bind ?_
 rw [getitemInPython_of_ne hT.not_modules]
 refine wpAny_bind (wpAny_specialOf hT PySem.F.slot_dict_getitem.lookup ?_)
 have fin : wpAny (model X.prog X.w) X.A (subscripted slice false (Value.ref a) u) (fun r s' => wpAny (model X.prog X.w) X.A (letTemporaryGo value (Value.ref a) r >>= fun _ => pure r) (EP X pins σ Q) X.xe s') X.xe s := by
  rw [hs]
  exact wpAny_operating (d_getItem hu I g ry fun w' s' I' rw' => wpAny_bind (wpAny_letTemporaryGo (wpAny_pure ⟨w, H, I', rw', q⟩)))
 first
  | exact wpAny_pure (wpAny_bind fin)
  | exact wpAny_bind (wpAny_pure (wpAny_bind fin))
  | exact wpAny_bind fin
end
theorem b4H {α : Type} {xs : List α} {i : Int} {v : α} (h : atI xs i = some v) : v ∈ xs := by
 obtain ⟨j, _, e, _⟩ := atI_get h
 exact List.mem_of_getElem? e
theorem a2P {x : Str} {m : Nat} (h : PyData.strOk x = true) (hc : m ∈ x.cps.toList) : PyData.strOk ⟨#[m]⟩ = true := by
 have h' : x.cps.all (fun y => decide (y < 0x110000)) = true := h
 rw [← Array.all_toList, List.all_eq_true] at h'
 have := h' m hc
 show (#[m] : Array Nat).all (fun y => decide (y < 0x110000)) = true
 rw [← Array.all_toList]
 simp only [List.all_cons, List.all_nil, Bool.and_true]
 exact this
theorem a6G {m : Nat} : (⟨#[m]⟩ : Str).length ≤ sizeLine := by
 show 1 ≤ sizeLine
 decide
def c0X (K : PySem.W.Frag) : R2 := fun x y H Q => rIx K x y H Q ∨ b06 x y H Q
theorem b6W (K : PySem.W.Frag) : OpD K (c0X K) gIx := by
 intro G W o c ρ S σ H x y a b t Q hK rs r1 r2 e p
 subst hK
 unfold gIx at e
 split at e
 ·rename_i xs i
  obtain ⟨a1, v1, e1, h1, n1, z1, q1⟩ := r1.lstV
  cases q : atI xs i with
  | none => rw [q] at e; cases e
  | some d =>
   rw [q] at e; cases e
   obtain ⟨v, q2, q3⟩ := q1.atI q
   rw [e1, r2.intV]
   exact .inl (.inl ⟨a1, v1, i, v, rfl, rfl, .of h1, q2, f8 rs p q3⟩)
 ·rename_i xs i
  obtain ⟨a1, v1, e1, h1, z1, q1⟩ := r1.tupV
  cases q : atI xs i with
  | none => rw [q] at e; cases e
  | some d =>
   rw [q] at e; cases e
   obtain ⟨v, q2, q3⟩ := q1.atI q
   rw [e1, r2.intV]
   exact .inl (.inr (.inl ⟨a1, v1, i, v, rfl, rfl, h1, q2, f8 rs p q3⟩))
 ·rename_i x i
  obtain ⟨e1, o1, l1⟩ := r1.strV
  cases q : atI x.cps.toList i with
  | none => rw [q] at e; cases e
  | some d =>
   rw [q] at e; cases e
   rw [e1, r2.intV]
   exact .inl (.inr (.inr ⟨x, i, d, rfl, rfl, l1, q, f8 rs p (.str _ (a2P o1 (b4H q)) a6G)⟩))
 ·rename_i kvs
  cases e1 : dAt kvs b with
  | none => rw [e1] at e; cases e
  | some od =>
   cases od with
   | none => rw [e1] at e; cases e
   | some d =>
    rw [e1] at e
    cases e
    obtain ⟨p', rfl, _, g⟩ := b2X r1 r2 e1
    obtain ⟨v, g, rv⟩ := g
    exact .inr ⟨p', v, rfl, g, f8 rs p rv⟩
 ·cases e
theorem t8 (h1 : UV G a f1) (h2 : UV G b f2) (hs : PlainIx b := by exact fun _ _ => rfl) : EV G (.Subscript a b pos) (d9 gIx f1 f2) := by
 obtain ⟨t1, p1, q1⟩ := h1
 obtain ⟨t2, p2, q2⟩ := h2
 exact ⟨fun W => tOp (c0X G.K) (t1 W) (t2 W), fun X W k => by have := pe_ix (pos := pos) ((ix_seq (X := X)).or (b4l (by have := k.units; omega))) (p1 X W k) (p2 X W k) hs; rw [k.K] at this; exact this, fun W => a6B (q1 W) (q2 W) (b6W _)⟩
def a0L (i : Nat) (f : SE) : SE := fun ρ S => match ρ[i]? with
 | some (some (.scr ns)) => R.d (f ρ S) fun d S1 => (match d with | .int j => (match atI ns j with | some n => .ok (.val (.int n)) S1 | none => .bad) | _ => .bad)
 | _ => .bad
theorem RepT.scrL {K : PySem.W.Frag} {w : Ow} {v : V} {ns : List Int} (r : RepT K o c H w v (.scr ns)) : ∃ a, v = .ref a ∧ SqL K H a (ns.map V.int) := by
 obtain ⟨a, e, z, h⟩ := r
 refine ⟨a, e, ?_⟩
 rcases h with ⟨ob, h⟩ | ⟨h, _⟩ | h
 ·exact .inl (.inr ⟨ob, h⟩)
 ·exact .inl (.inl h)
 ·exact .inr h
theorem b4I {α β : Type} (g : α → β) (xs : List α) (i : Int) : atI (xs.map g) i = (atI xs i).map g := by
 unfold L2.atI
 rw [List.length_map]
 cases ixN xs.length i with
 | none => rfl
 | some j => simp
theorem a7t (i : Nat) {x : Str} {xpos : Pos} (h2 : UV G b f2) (hs : PlainIx b := by exact fun _ _ => rfl) (hN : G.N[i]? = some x := by rfl) (hv : Vis G.sc x := by first | exact Or.inl rfl | exact Or.inr (Or.inl rfl) | exact Or.inr (Or.inr rfl))
  (hd : (x == ("__debug__" : Str)) = false := by decide) (hcd : (x == ("__classdict__" : Str)) = false := by decide) : EV G (.Subscript (.Name x xpos) b pos) (a0L i f2) := by
 obtain ⟨t2, p2, q2⟩ := h2
 refine ⟨fun W => tOp (rIxL G.K) (tVar i) (t2 W), fun X W k => by have := pe_ix (pos := pos) (ix_list (X := X)) (pe_var (pos := xpos) (k.at hN) (k.vis hv) hd hcd) (p2 X W k) hs; rw [k.K] at this; exact this, fun W σ H ρ S o c Q nt rs p => ?_⟩
 unfold a0L at p
 split at p
 ·rename_i ns e
  obtain ⟨v, e1, r⟩ := rs.slot i _ e
  refine ⟨v, e1, (q2 W).d nt rs p fun d S1 v1 o1 c1 H1 s1 nt1 rs1 r1 p1 => ?_⟩
  obtain ⟨a, e2, hq⟩ := (RepT.step (w := .slot i) rs.cs.trk s1 (fun z => z) r).scrL
  cases d with
  | int j =>
   cases q : atI ns j with
   | none => simp only [q] at p1; exact p1.elim
   | some n =>
    simp only [q] at p1
    exact ⟨a, _, j, .int n, e2, r1.intV, hq, by rw [b4I, q]; rfl, f8 rs1 p1 (.int _)⟩
  | _ => exact p1.elim
 ·exact p.elim
def M3 (i : Nat) (f : SE) : SE := fun ρ S => match ρ[i]? with
 | some (some (.cel n)) => R.d (f ρ S) fun d S1 => (match d, S1[n]? with | .int j, some (.lst xs) => (match atI xs j with | some x => .ok (.val x) S1 | none => .bad) | _, _ => .bad)
 | _ => .bad
theorem CS.at {K : PySem.W.Frag} {S : Sto} (q : CS K o c S H) {n : Nat} {a : Addr} {k : Ce} (e : c[n]? = some a) (e' : S[n]? = some k) : CellR K o H n a k := q.cell n a k e e'
theorem H0 (i : Nat) {x : Str} {xpos : Pos} (h2 : UV G b f2) (hs : PlainIx b := by exact fun _ _ => rfl) (hN : G.N[i]? = some x := by rfl) (hv : Vis G.sc x := by first | exact Or.inl rfl | exact Or.inr (Or.inl rfl) | exact Or.inr (Or.inr rfl))
  (hd : (x == ("__debug__" : Str)) = false := by decide) (hcd : (x == ("__classdict__" : Str)) = false := by decide) : EV G (.Subscript (.Name x xpos) b pos) (M3 i f2) := by
 obtain ⟨t2, p2, q2⟩ := h2
 refine ⟨fun W => tOp (rIxL G.K) (tVar i) (t2 W), fun X W k => by have := pe_ix (pos := pos) (ix_list (X := X)) (pe_var (pos := xpos) (k.at hN) (k.vis hv) hd hcd) (p2 X W k) hs; rw [k.K] at this; exact this, fun W σ H ρ S o c Q nt rs p => ?_⟩
 unfold M3 at p
 split at p
 ·rename_i n e
  obtain ⟨v, e1, r⟩ := rs.slot i _ e
  refine ⟨v, e1, (q2 W).d nt rs p fun d S1 v1 o1 c1 H1 s1 nt1 rs1 r1 p1 => ?_⟩
  obtain ⟨a, ea, ev⟩ := r
  have ea' := a1N s1.pre ea
  cases d with
  | int j =>
   cases q0 : S1[n]? with
   | none => simp only [q0] at p1; exact p1.elim
   | some k =>
    cases k with
    | dead => simp only [q0] at p1; exact p1.elim
    | dct tk kvs => simp only [q0] at p1; exact p1.elim
    | tab => simp only [q0] at p1; exact p1.elim
    | rcd b v => simp only [q0] at p1; exact p1.elim
    | lst xs =>
     simp only [q0] at p1
     cases q : atI xs j with
     | none => simp only [q] at p1; exact p1.elim
     | some x =>
      simp only [q] at p1
      obtain ⟨_, vs, h1, h2, h3⟩ := rs1.cs.at ea' q0
      obtain ⟨v', q5, q6⟩ := h3.atI q
      exact ⟨a, vs, j, v', ev, r1.intV, .of h1, q5, f8 rs1 p1 q6⟩
  | _ => exact p1.elim
 ·exact p.elim

def b9F (G : Cc) (W : WX) (o : Gh) (c : Cs) (ρ : En) (σ : L2.St) (H : Hp) (r : R (Option Int)) (Q : Option Int → Hp → Prop) : Prop := match r with
 | .ok i S' => ∀ o' c' H', Step c9 o c H o' c' H' → NT o' → RS G.K o' c' ρ S' σ H' → Q i H'
 | .exc e S' => ∀ cls d o' c' H', Step c9 o c H o' c' H' → RS G.K o' c' ρ S' σ H' → NT o' → b1f G.mg H' cls d e → W cls d σ H'
 | .bad => False
def PartR (G : Cc) (W : WX) (t : TO) (f : En → Sto → R (Option Int)) : Prop := ∀ (σ : L2.St) (H : Hp) (ρ : En) (S : Sto) (o : Gh) (c : Cs) (Q : Option Int → Hp → Prop), NT o → RS G.K o c ρ S σ H → b9F G W o c ρ σ H (f ρ S) Q → t σ H Q
theorem PartR.d {f : En → Sto → R (Option Int)} {t : TO} (h : PartR G W t f) {S : Sto} {k : Option Int → Sto → R T} {Q : Option Int → Hp → Prop} {Q0 : VK} (nt : NT o) (rs : RS G.K o c ρ S σ H) (p : PostE G W o c ρ σ H (R.l (f ρ S) k) Q0)
  (q : ∀ i S1 o1 c1 H1, Step c9 o c H o1 c1 H1 → NT o1 → RS G.K o1 c1 ρ S1 σ H1 → PostE G W o1 c1 ρ σ H1 (k i S1) Q0 → Q i H1) : t σ H Q := by
 refine h σ H ρ S o c Q nt rs ?_
 cases e : f ρ S with
 | ok ts S1 => rw [e] at p; exact fun o' c' H' s nt' rs' => q ts S1 o' c' H' s nt' rs' (PostE.step s p)
 | exc e S1 => rw [e] at p; exact p
 | bad => rw [e] at p; exact p
def PtV (G : Cc) (e : Option Expr) (f : En → Sto → R (Option Int)) : Prop := ∃ t : WX → TO, (∀ X W, G.Ok X W → PO X e (t W)) ∧ ∀ W, PartR G W (t W) f
def P1 : En → Sto → R (Option Int) := fun _ S => .ok none S
def V9 (f : SE) : En → Sto → R (Option Int) := fun ρ S => match f ρ S with
 | .ok t S1 => (match asD t with | some (.int i) => .ok (some i) S1 | _ => .bad)
 | .exc e S1 => .exc e S1
 | .bad => .bad
theorem a0e : PtV G none P1 := ⟨fun _ => tNoPart, fun _ _ _ => po_none, fun W σ H ρ S o c Q nt rs p => p o c H Step.refl nt rs⟩
theorem H8 (h : UV G e f1) : PtV G (some e) (V9 f1) := by
 obtain ⟨t, p, q⟩ := h
 refine ⟨fun W => tPart (t W), fun X W k => po_some (p X W k), fun W σ H ρ S o c Q nt rs ps => ?_⟩
 refine q W σ H ρ S o c _ nt rs ?_
 unfold V9 at ps
 cases e : f1 ρ S with
 | bad => rw [e] at ps; exact ps
 | exc e' S' => rw [e] at ps; exact ps
 | ok t0 S' =>
  rw [e] at ps
  cases e1 : asD t0 with
  | none => simp only [e1] at ps; exact ps.elim
  | some d =>
   simp only [e1] at ps
   refine ⟨d, e1, fun v o1 c1 H1 s1 nt1 rs1 r1 => ?_⟩
   cases d with
   | int i => exact ⟨i, r1.intV, ps o1 c1 H1 s1 nt1 rs1⟩
   | _ => exact ps.elim
def Z2 {α : Type} (xs : List α) (lo hi : Option Int) : List α := (xs.drop (HT.sIx xs.length 0 lo)).take (HT.sIx xs.length xs.length hi - HT.sIx xs.length 0 lo)
theorem RepAll.cut {K : PySem.W.Frag} {vs : List V} {ds : List D} (r : RepAll K o H vs ds) (lo hi : Option Int) : RepAll K o H (cutV vs lo hi) (Z2 ds lo hi) := by
 unfold cutV Z2
 rw [r.length]
 exact (r.drop _).take _
def gSl : D → Option Int → Option Int → Option T
 | .list xs, lo, hi => some (.own (Z2 xs lo hi))
 | .tuple xs, lo, hi => some (.val (.tuple (Z2 xs lo hi)))
 | .str x, lo, hi => some (.val (.str (cutS x lo hi)))
 | _, _, _ => none
def cSl (f : SE) (g h : En → Sto → R (Option Int)) : SE := fun ρ S => R.d (f ρ S) fun d S1 => R.l (g ρ S1) fun lo S2 => R.l (h ρ S2) fun hi S3 => match gSl d lo hi with | some t => .ok t S3 | none => .bad
theorem b0x {x : Str} {lo hi : Option Int} (h : PyData.strOk x = true) : PyData.strOk (cutS x lo hi) = true := by
 have h' : x.cps.all (fun y => decide (y < 0x110000)) = true := h
 rw [← Array.all_toList, List.all_eq_true] at h'
 show (cutS x lo hi).cps.all (fun y => decide (y < 0x110000)) = true
 rw [← Array.all_toList, List.all_eq_true]
 intro c hc
 unfold cutS at hc
 exact h' c (List.mem_of_mem_drop (List.mem_of_mem_take (by simpa using hc)))
def c1s (K : PySem.W.Frag) : V → Option Int → Option Int → Hp → VK → Prop := fun x lo hi H Q => (rSlL K x lo hi H Q ∨ rSlA K x lo hi H Q) ∨ rSlS x lo hi H Q
theorem a50 {lo hi : Option Expr} {sp : Pos} {g h : En → Sto → R (Option Int)} (h1 : UV G a f1) (h2 : PtV G lo g) (h3 : PtV G hi h) : EV G (.Subscript a (.Slice lo hi none sp) pos) (cSl f1 g h) := by
 obtain ⟨t1, p1, q1⟩ := h1
 obtain ⟨t2, p2, q2⟩ := h2
 obtain ⟨t3, p3, q3⟩ := h3
 refine ⟨fun W => tSl (c1s G.K) (t1 W) (t2 W) (t3 W), fun X W k => ?_, fun W σ H ρ S o c Q nt rs p => ?_⟩
 ·have := pe_slice (pos := pos) (p2 := sp) ((sl_list (X := X)).or (sl_tupA (X := X)) |>.or (sl_str (X := X))) (p1 X W k) (p2 X W k) (p3 X W k)
  rw [k.K] at this
  exact this
 refine (q1 W).d nt rs p fun d S1 v o1 c1 H1 s1 nt1 rs1 r1 p1 => ?_
 refine (q2 W).d nt1 rs1 p1 fun l S2 o2 c2 H2 s2 nt2 rs2 p2 => ?_
 refine (q3 W).d nt2 rs2 p2 fun u S3 o3 c3 H3 s3 nt3 rs3 p3 => ?_
 have r3 := (r1.step rs1.cs.trk s2).step rs2.cs.trk s3
 cases d with
 | list xs =>
  obtain ⟨a, vs, e1, h1, _, z1, ra⟩ := r3.lstV
  exact .inl (.inl ⟨a, vs, e1, .of h1, fun q n => C6 rs3 p3 n (Nat.le_trans (cutV_length _ _ _) z1) (ra.cut l u)⟩)
 | tuple xs =>
  obtain ⟨a, vs, e1, h1, z1, ra⟩ := r3.tupW
  subst e1
  refine .inl (.inr ⟨a, vs, rfl, h1, fun hw => ?_, fun hw q n => X3 rs3 p3 n (Nat.le_trans (cutV_length _ _ _) z1) (ra.cut l u)⟩)
  have e2 : Z2 xs l u = xs := by
   unfold Z2
   rw [← ra.length, hw.1, hw.2, List.drop_zero, Nat.sub_zero, ra.length, List.take_length]
  have p4 : PostE G W o3 c3 ρ σ H3 (.ok (.val (.tuple (Z2 xs l u))) S3) Q := p3
  rw [e2] at p4
  exact f8 rs3 p4 (.tup a vs xs h1 z1 ra)
 | str x =>
  obtain ⟨e1, o1, l1⟩ := r3.strV
  exact .inr ⟨x, e1, l1, f8 rs3 p3 (.str _ (b0x o1) (Nat.le_trans (cutS_length _ _ _) l1))⟩
 | _ => exact p3.elim
end
end BV
namespace BV
open PySem L2

abbrev SU := En → Sto → R (List D)
def A9 : SU := fun _ S => .ok [] S
def i8 (f : SE) (g : SU) : SU := fun ρ S => match f ρ S with
 | .ok t S1 => (match asD t with | some d => R.l (g ρ S1) fun ds S2 => .ok (d :: ds) S2 | none => .bad)
 | .exc e S1 => .exc e S1
 | .bad => .bad
def RepUs (K : PySem.W.Frag) (o : Gh) (H : Hp) : List V → List D → Prop
 | [], [] => True
 | v :: vs, d :: ds => RepU K o H v d ∧ RepUs K o H vs ds
 | _, _ => False
def PostL (G : Cc) (W : WX) (o : Gh) (c : Cs) (ρ : En) (σ : L2.St) (H : Hp) (r : R (List D)) (Q : List V → Hp → Prop) : Prop := match r with
 | .ok ds S' => ∀ vs o' c' H', Step c9 o c H o' c' H' → NT o' → RS G.K o' c' ρ S' σ H' → RepUs G.K o' H' vs ds → Q vs H'
 | .exc e S' => ∀ cls d o' c' H', Step c9 o c H o' c' H' → RS G.K o' c' ρ S' σ H' → NT o' → b1f G.mg H' cls d e → W cls d σ H'
 | .bad => False
def UAR (G : Cc) (W : WX) (t : TA) (f : SU) : Prop := ∀ (σ : L2.St) (H : Hp) (ρ : En) (S : Sto) (o : Gh) (c : Cs) (Q : List V → Hp → Prop), NT o → RS G.K o c ρ S σ H → PostL G W o c ρ σ H (f ρ S) Q → t σ H Q
def UAV (G : Cc) (es : List Expr) (f : SU) : Prop := ∃ t : WX → TA, (∀ X W, G.Ok X W → PA X es (t W)) ∧ ∀ W, UAR G W (t W) f
theorem PostL.step {G : Cc} {W : WX} {o o1 : Gh} {c c1 : Cs} {ρ : En} {σ : L2.St} {H H1 : Hp} {r : R (List D)} {Q : List V → Hp → Prop} (a : Step c9 o c H o1 c1 H1) (h : PostL G W o c ρ σ H r Q) : PostL G W o1 c1 ρ σ H1 r Q := by
 cases r with
 | ok t S' => exact fun v o' c' H' s => h v o' c' H' (a.trans s)
 | exc e S' => exact fun cls d o' c' H' s => h cls d o' c' H' (a.trans s)
 | bad => exact h
theorem UAR.d {G : Cc} {W : WX} {o : Gh} {c : Cs} {ρ : En} {σ : L2.St} {H : Hp} {f : SU} {t : TA} (h : UAR G W t f) {S : Sto} {k : List D → Sto → R T} {Q : List V → Hp → Prop} {Q0 : VK} (nt : NT o) (rs : RS G.K o c ρ S σ H) (p : PostE G W o c ρ σ H (R.l (f ρ S) k) Q0)
  (q : ∀ ds S1 vs o1 c1 H1, Step c9 o c H o1 c1 H1 → NT o1 → RS G.K o1 c1 ρ S1 σ H1 → RepUs G.K o1 H1 vs ds → PostE G W o1 c1 ρ σ H1 (k ds S1) Q0 → Q vs H1) : t σ H Q := by
 refine h σ H ρ S o c Q nt rs ?_
 cases e : f ρ S with
 | ok ts S1 => rw [e] at p; exact fun vs o' c' H' s nt' rs' r' => q ts S1 vs o' c' H' s nt' rs' r' (PostE.step s p)
 | exc e S1 => rw [e] at p; exact p
 | bad => rw [e] at p; exact p
theorem RepUs.step {K : PySem.W.Frag} {o o1 : Gh} {c c1 : Cs} {H H1 : Hp} (tr : Trk o H) (s : Step c9 o c H o1 c1 H1) : ∀ {vs : List V} {ds : List D}, RepUs K o H vs ds → RepUs K o1 H1 vs ds
 | [], [], _ => trivial
 | _ :: _, _ :: _, r => ⟨r.1.step tr s, RepUs.step tr s r.2⟩
 | [], _ :: _, r => r.elim
 | _ :: _, [], r => r.elim
section
variable {G : Cc} {pos : Pos} {e : Expr} {es : List Expr} {f : SE} {g : SU}
theorem i9 : UAV G [] A9 := ⟨fun _ => tNil, fun X W k => pa_nil, fun W σ H ρ S o c Q nt rs p => p [] o c H Step.refl nt rs trivial⟩
theorem d5 (h1 : UV G e f) (h2 : UAV G es g) (hs : ∀ env : PySem.Env, starEach (e :: es) env = (false, eval e env) :: starEach es env := by intro _; rfl) : UAV G (e :: es) (i8 f g) := by
 obtain ⟨t1, p1, q1⟩ := h1
 obtain ⟨t2, p2, q2⟩ := h2
 refine ⟨fun W => tCons (t1 W) (t2 W), fun X W k => pa_cons (p1 X W k) (p2 X W k) (hs _), fun W σ H ρ S o c Q nt rs p => ?_⟩
 refine q1 W σ H ρ S o c _ nt rs ?_
 unfold i8 at p
 cases e1 : f ρ S with
 | bad => rw [e1] at p; exact p
 | exc e' S' => rw [e1] at p; exact p
 | ok t0 S' =>
  rw [e1] at p
  cases e2 : asD t0 with
  | none => simp only [e2] at p; exact p.elim
  | some d =>
   simp only [e2] at p
   refine ⟨d, e2, fun v o1 c1 H1 s1 nt1 rs1 r1 => ?_⟩
   have p' := PostL.step s1 p
   refine q2 W σ H1 ρ S' o1 c1 _ nt1 rs1 ?_
   cases e3 : g ρ S' with
   | bad => rw [e3] at p'; exact p'
   | exc e' S' => rw [e3] at p'; exact p'
   | ok ds S2 =>
    rw [e3] at p'
    exact fun vs o2 c2 H2 s2 nt2 rs2 r2 => p' (v :: vs) o2 c2 H2 s2 nt2 rs2 ⟨r1.step rs1.cs.trk s2, r2⟩

def b3A (K : PySem.W.Frag) (r : List V → Hp → VK → Prop) (g : List D → Option T) : Prop := ∀ (G : Cc) (W : WX) (o : Gh) (c : Cs) (ρ : En) (S : Sto) (σ : L2.St) (H : Hp) (vs : List V) (ds : List D) (t : T) (Q : VK), G.K = K → RS K o c ρ S σ H → RepUs K o H vs ds → g ds = some t →
 PostE G W o c ρ σ H (.ok t S) Q → r vs H Q
def cB1 (g : List D → Option T) (fs : SU) : SE := fun ρ S => R.l (fs ρ S) fun ds S1 => match g ds with | some t => .ok t S1 | none => .bad
structure BF (G : Cc) (x : Str) (g : List D → Option T) : Prop where
 ex : ∃ (id : String) (r : List V → Hp → VK → Prop), bootBuiltins x = some (.builtin id) ∧ (∀ X W, G.Ok X W → CallR X (.builtin id) r) ∧ b3A G.K r g
structure BT (G : Cc) (x : Str) (g : List D → Option T) : Prop where
 ex : ∃ (id : String) (r : List V → Hp → VK → Prop), bootBuiltins x = some (.type id) ∧ (∀ X W, G.Ok X W → CallR X (.type id) r) ∧ b3A G.K r g
theorem b0r {W : WX} {t : TA} {r : List V → Hp → VK → Prop} {g : List D → Option T} {fs : SU} (h : UAR G W t fs) (hr : b3A G.K r g) : ER G W (tCB r t) (cB1 g fs) := by
 intro σ H ρ S o c Q nt rs p
 unfold cB1 at p
 refine h.d (Q := fun vs H1 => r vs H1 Q) nt rs p fun ds S1 vs o1 c1 H1 s1 nt1 rs1 r1 p1 => ?_
 cases e : g ds with
 | none => rw [e] at p1; exact p1.elim
 | some t => rw [e] at p1; exact hr G W o1 c1 ρ S1 σ H1 vs ds t Q rfl rs1 r1 e p1
theorem E5 {x : Str} {p : Pos} {gg : List D → Option T} (hb : BF G x gg) (hm : G.mg x = none) (ha : UAV G (e :: es) g) (hg : G.sc.names.lookup x = some .globalImplicit := by rfl) (hn : x ≠ "__name__" := by decide) (hdb : (x == ("__debug__" : Str)) = false := by decide)
  (he : ∀ env : PySem.Env, starEach (e :: es) env = (false, eval e env) :: starEach es env := by intro _; rfl) (hpl : ∀ env : PySem.Env, (backTo pos (starEach es env)).any (·.1) = false := by intro _; rfl) : EV G (.Call (.Name x p) (e :: es) [] pos) (cB1 gg g) := by
 obtain ⟨t, p1, q1⟩ := ha
 obtain ⟨id, r, hv, hr, hd⟩ := hb.ex
 exact ⟨fun W => tCB r (t W), fun X W k => pe_callB (hr X W k) (k.gl hg) (k.m hm) hv (p1 X W k) hn hdb (he _) (hpl _), fun W => b0r (q1 W) hd⟩
theorem b2s {x : Str} {p : Pos} {gg : List D → Option T} (hb : BT G x gg) (hm : G.mg x = none) (ha : UAV G (e :: es) g) (hg : G.sc.names.lookup x = some .globalImplicit := by rfl) (hn : x ≠ "__name__" := by decide) (hdb : (x == ("__debug__" : Str)) = false := by decide)
  (he : ∀ env : PySem.Env, starEach (e :: es) env = (false, eval e env) :: starEach es env := by intro _; rfl) (hpl : ∀ env : PySem.Env, (backTo pos (starEach es env)).any (·.1) = false := by intro _; rfl) : EV G (.Call (.Name x p) (e :: es) [] pos) (cB1 gg g) := by
 obtain ⟨t, p1, q1⟩ := ha
 obtain ⟨id, r, hv, hr, hd⟩ := hb.ex
 exact ⟨fun W => tCB r (t W), fun X W k => pe_callTy (hr X W k) (k.gl hg) (k.m hm) hv (p1 X W k) hn hdb (he _) (hpl _), fun W => b0r (q1 W) hd⟩

theorem RepUs.nilV {K : PySem.W.Frag} {o : Gh} {H : Hp} : ∀ {vs : List V}, RepUs K o H vs [] → vs = []
 | [], _ => rfl
 | _ :: _, r => r.elim
theorem RepUs.consV {K : PySem.W.Frag} {o : Gh} {H : Hp} {d : D} {ds : List D} : ∀ {vs : List V}, RepUs K o H vs (d :: ds) → ∃ v ws, vs = v :: ws ∧ RepU K o H v d ∧ RepUs K o H ws ds
 | [], r => r.elim
 | v :: ws, r => ⟨v, ws, rfl, r.1, r.2⟩
theorem RepUs.one {K : PySem.W.Frag} {o : Gh} {H : Hp} {vs : List V} {d : D} (r : RepUs K o H vs [d]) : ∃ v, vs = [v] ∧ RepU K o H v d := by
 obtain ⟨v, ws, e, r1, r2⟩ := r.consV
 exact ⟨v, by rw [e, r2.nilV], r1⟩
theorem RepUs.two {K : PySem.W.Frag} {o : Gh} {H : Hp} {vs : List V} {d e : D} (r : RepUs K o H vs [d, e]) : ∃ v w, vs = [v, w] ∧ RepU K o H v d ∧ RepU K o H w e := by
 obtain ⟨v, ws, e, r1, r2⟩ := r.consV
 obtain ⟨w, us, e', r3, r4⟩ := r2.consV
 exact ⟨v, w, by rw [e, e', r4.nilV], r1, r3⟩
def c1Y : D → Option Nat
 | .str x => some x.length
 | .list xs => some xs.length
 | .tuple xs => some xs.length
 | _ => none
def a2g : List D → Option T
 | [d] => (c1Y d).map fun (n : Nat) => T.val (.int n)
 | _ => none
theorem a0f : BF G "len" a2g := ⟨"len", _, boot_len, fun X W k => by have := call_len (X := X); rw [k.K] at this; exact this, by
 intro G' W o c ρ S σ H vs ds t Q hK rs r e p
 rw [← hK] at r ⊢
 match ds, r, e with
 | [d], r, e =>
  obtain ⟨v, rfl, r'⟩ := r.one
  cases d with
  | str x =>
   cases e
   obtain ⟨e1, o1, l1⟩ := r'.strV
   exact ⟨v, _, rfl, by rw [e1]; exact ⟨l1, rfl⟩, f8 (hK ▸ rs) p (.int _)⟩
  | list xs =>
   cases e
   obtain ⟨a, vs, e1, h1, _, z1, ra⟩ := r'.lstV
   exact ⟨v, _, rfl, by rw [e1]; exact .inl ⟨vs, .of h1, ra.length.symm⟩, f8 (hK ▸ rs) p (.int _)⟩
  | tuple xs =>
   cases e
   obtain ⟨a, vs, e1, h1, z1, ra⟩ := r'.tupV
   exact ⟨v, _, rfl, by rw [e1]; exact .inr ⟨vs, h1, ra.length.symm⟩, f8 (hK ▸ rs) p (.int _)⟩
  | _ => cases e⟩
def b5N : List D → Option T
 | [.int i] => some (.val (.int (if i < 0 then -i else i)))
 | _ => none
theorem b3n : BF G "abs" b5N := ⟨"abs", _, by first | exact boot_abs | exact PyProof.Rows.boot_abs, fun X W k => call_abs, by
 intro G' W o c ρ S σ H vs ds t Q hK rs r e p
 unfold b5N at e
 split at e
 ·cases e
  obtain ⟨v, rfl, r'⟩ := r.one
  rw [r'.intV]
  exact ⟨_, rfl, f8 (hK ▸ rs) p (.int _)⟩
 ·cases e⟩
def a3k : List D → Option T
 | [.int i, .int j] => some (.val (.int (if j < i then j else i)))
 | _ => none
theorem X8 (hcm : G.hot = none := by rfl) : BF G "min" a3k := ⟨"min", _, by first | exact boot_min | exact PyProof.Rows.boot_min, fun X W k => call_min2 (k.calm hcm), by
 intro G' W o c ρ S σ H vs ds t Q hK rs r e p
 unfold a3k at e
 split at e
 ·cases e
  obtain ⟨v, w, rfl, r1, r2⟩ := r.two
  rw [r1.intV, r2.intV]
  exact ⟨_, _, rfl, f8 (hK ▸ rs) p (.int _)⟩
 ·cases e⟩
def a4d : List D → Option T
 | [.int i, .int j] => some (.val (.int (if j > i then j else i)))
 | _ => none
theorem a1l (hcm : G.hot = none := by rfl) : BF G "max" a4d := ⟨"max", _, by first | exact boot_max | exact PyProof.Rows.boot_max, fun X W k => call_max2 (k.calm hcm), by
 intro G' W o c ρ S σ H vs ds t Q hK rs r e p
 unfold a4d at e
 split at e
 ·cases e
  obtain ⟨v, w, rfl, r1, r2⟩ := r.two
  rw [r1.intV, r2.intV]
  exact ⟨_, _, rfl, f8 (hK ▸ rs) p (.int _)⟩
 ·cases e⟩
def a0a : List D → Option T
 | [.list xs] => some (.val (.tuple xs))
 | [.tuple xs] => some (.val (.tuple xs))
 | _ => none
theorem a1h : BT G "tuple" a0a := ⟨"tuple", _, by first | exact boot_tuple | exact PyProof.Rows.boot_tuple, fun X W k => by have := call_tuple_of (X := X); rw [k.K] at this; exact this, by
 intro G' W o c ρ S σ H vs ds t Q hK rs r e p
 rw [← hK] at r ⊢
 unfold a0a at e
 split at e
 ·cases e
  obtain ⟨v, rfl, r'⟩ := r.one
  obtain ⟨a, vs, e1, h1, _, z1, ra⟩ := r'.lstV
  subst e1
  exact ⟨a, vs, rfl, .inl ⟨.of h1, fun l n => X3 (hK ▸ rs) p n z1 ra⟩⟩
 ·cases e
  obtain ⟨v, rfl, r'⟩ := r.one
  obtain ⟨a, vs, e1, h1, z1, ra⟩ := r'.tupW
  subst e1
  exact ⟨a, vs, rfl, .inr ⟨h1, f8 (hK ▸ rs) p (.tup a vs _ h1 z1 ra)⟩⟩
 ·cases e⟩
def a8Z : List D → Option T
 | [.list xs] => some (.own xs)
 | [.tuple xs] => some (.own xs)
 | _ => none
theorem b3W : BT G "list" a8Z := ⟨"list", _, by first | exact boot_list | exact PyProof.Rows.boot_list, fun X W k => by have := call_list_of (X := X); rw [k.K] at this; exact this, by
 intro G' W o c ρ S σ H vs ds t Q hK rs r e p
 rw [← hK] at r ⊢
 unfold a8Z at e
 split at e
 ·cases e
  obtain ⟨v, rfl, r'⟩ := r.one
  obtain ⟨a, vs, e1, h1, _, z1, ra⟩ := r'.lstV
  subst e1
  exact ⟨a, vs, rfl, .inl (.of h1), fun l n => C6 (hK ▸ rs) p n z1 ra⟩
 ·cases e
  obtain ⟨v, rfl, r'⟩ := r.one
  obtain ⟨a, vs, e1, h1, z1, ra⟩ := r'.tupV
  subst e1
  exact ⟨a, vs, rfl, .inr h1, fun l n => C6 (hK ▸ rs) p n z1 ra⟩
 ·cases e⟩
end
end BV
namespace BV
open PySem L2

def b4R (o : Gh) : Prop := ∀ a w, o a = some w → (w = .prot ∨ w = .seen) ∨ c9 w
def b9V (K : PySem.W.Frag) (mg : Str → Option Value) (o : Gh) (c : Cs) (H : Hp) (r : R T) (Q : VK) (E : XK) : Prop := match r with
 | .ok t S' => ∀ v o' c' H', Step c9 o c H o' c' H' → CS K o' c' S' H' → (∀ a i, o' a ≠ some (.slot i)) → RepT K o' c' H' .tmp v t → Q v H'
 | .exc e S' => ∀ cls d o' c' H', Step c9 o c H o' c' H' → CS K o' c' S' H' → (∀ a i, o' a ≠ some (.slot i)) → NT o' → b1f mg H' cls d e → E cls d H'
 | .bad => False
def spD (K : PySem.W.Frag) (mg : Str → Option Value) (n : Nat) (f : Fn) : Sp := fun vs H Q E => vs.length = n ∧ ∃ ts S o c, RepTs K o c H vs ts ∧ b4R o ∧ CS K o c S H ∧ b9V K mg o c H (f ts S) Q E
structure FnD (P : Program) (w : World) (K : PySem.W.Frag) (mg : Str → Option Value) (base : Heap) (cn : Bool) (k : Nat) (x : Str) (n : Nat) (f : Fn) : Prop where
 ex : ∃ (a : Addr) (fd : FuncData) (ps : List Str), mg x = some (.ref a) ∧ PySem.W.keepIn K (.ref a) = true ∧ Binds K fd ps [] ∧ ps.length = n ∧ FnOk P w K mg base (CXg cn P w) k a fd ps (spD K mg n f)
def a2f (o : Gh) : Gh := fun a => match o a with
 | some (.cell n) => some (.cell n)
 | some .seen => some .seen
 | some _ => some .prot
 | none => none
def M9 (o o' : Gh) : Gh := fun a => match o a with
 | some (.cell _) => o' a
 | some w => some w
 | none => o' a
section
variable {K : PySem.W.Frag} {o o1 o' : Gh} {c c' : Cs} {H H' : Hp} {S S' : Sto} {v : V} {t : T} {w : Ow} {ρ : En} {σ : L2.St}
theorem forC_none {a : Addr} : a2f o a = none ↔ o a = none := by
 unfold a2f
 constructor
 ·intro h
  split at h <;> first | assumption | (cases h; done)
 ·intro h
  rw [h]
theorem a9c : b4R (a2f o) := fun a w h => by
 unfold a2f at h
 split at h
 ·cases h; exact .inr trivial
 ·cases h; exact .inl (.inr rfl)
 ·cases h; exact .inl (.inl rfl)
 ·cases h
theorem forC_cell {a : Addr} {n : Nat} : a2f o a = some (.cell n) ↔ o a = some (.cell n) := by
 unfold a2f
 constructor
 ·intro h
  split at h
  ·cases h; assumption
  ·cases h
  ·cases h
  ·cases h
 ·intro h
  rw [h]
theorem b7G {a : Addr} (e : o a = some w) (h : ¬ c9 w) : ∃ w', a2f o a = some w' ∧ (w' = .prot ∨ w' = .seen) := by
 unfold a2f
 rw [e]
 cases w with
 | cell n => exact absurd trivial h
 | seen => exact ⟨_, rfl, .inr rfl⟩
 | _ => exact ⟨_, rfl, .inl rfl⟩
theorem a1m (s : Step c9 (a2f o) c H o' c' H') {a : Addr} (e : o a = some w) (h : ¬ c9 w) : ∃ w', o' a = some w' ∧ (w' = .prot ∨ w' = .seen) := by
 obtain ⟨w', h1, h2⟩ := b7G e h
 refine ⟨w', s.own a _ h1 (fun z => ?_), h2⟩
 rcases h2 with z' | z' <;> (subst z'; exact z)
theorem Kept.same (h : ∀ a, o a = none → o' a = none) : Kept o H o' H := fun a u e n => ⟨e, h a n⟩
theorem Trk.same (tr : Trk o H) (h : ∀ a, o' a ≠ none → o a ≠ none) : Trk o' H := fun a n => tr a (h a n)
theorem CS.same (q : CS K o c S H) (h : ∀ a, o a = none ↔ o' a = none) (hc : ∀ a n, o a = some (.cell n) → o' a = some (.cell n)) : CS K o' c S H :=
 q.move (Kept.same fun a e => (h a).mp e) (fun a n e => ⟨hc a n e, fun u hu => hu⟩) (q.trk.same fun a n e => n ((h a).mp e))
theorem RepT.same (tr : Trk o H) (h : ∀ a, o a = none → o' a = none) (hw : ∀ a, o a = some w → o' a = some w) (hp : ∀ a, o a = some .seen → o' a = some .seen) (r : RepT K o c H w v t) : RepT K o' c H w v t := by
 have k : Kept o H o' H := Kept.same h
 cases t with
 | val d => exact Rep.kept tr k r
 | own xs =>
  obtain ⟨x, vs, e, q, h', z, ra⟩ := r
  exact ⟨x, vs, e, hw _ q, h', z, ra.kept tr k⟩
 | own2 xss =>
  obtain ⟨x, as, e, q, h', nd, z, le, f⟩ := r
  refine ⟨x, as, e, hw _ q, h', nd, z, le, fun i b xs e1 e2 => ?_⟩
  obtain ⟨q', vs, h'', z', ra⟩ := f i b xs e1 e2
  exact ⟨hw _ q', vs, h'', z', ra.kept tr k⟩
 | ownd kvs =>
  obtain ⟨x, ks, vs, ds, e, q, h', z, z2, ra, e'⟩ := r
  exact ⟨x, ks, vs, ds, e, hw _ q, h', z, z2, ra.kept tr k, e'⟩
 | cel n => exact r
 | scr ns =>
  obtain ⟨x, e, z, h'⟩ := r
  refine ⟨x, e, z, ?_⟩
  rcases h' with h' | ⟨h', n⟩ | h'
  ·exact .inl h'
  ·exact .inr (.inl ⟨h', h _ n⟩)
  ·exact .inr (.inr h')
 | exn _ _ _ _ => exact r
 | tree d =>
  obtain ⟨as, r, nd⟩ := r
  exact ⟨as, r.move (fun x u e q => ⟨e, hw _ q⟩) (fun b us z => SqT.kept tr k z), nd⟩
 | rof b u =>
  obtain ⟨x, fv, e, q, h1, h2, h3⟩ := r
  exact ⟨x, fv, e, hp _ q, h1, h2, h3.moved tr k hp⟩
 | recs b ns => exact RcsR.move (fun x u e q => ⟨e, hw _ q⟩) k (fun _ _ e => e) r
theorem RepT.anyW {w' : Ow} (ea : asA t = t) (r : RepT K o c H w v t) : RepT K o c H w' v t := by
 cases t with
 | val d => exact r
 | own xs => cases ea
 | own2 xs => cases ea
 | ownd xs => cases ea
 | cel n => exact r
 | scr ns => exact r
 | exn _ _ _ _ => exact r
 | tree d => cases ea
 | rof b u => exact r
 | recs b ns =>
  cases b with
  | true => cases ea
  | false =>
   obtain ⟨a, as, e, q, h, z, l, f⟩ := r
   exact ⟨a, as, e, q, h, z, l, f⟩
theorem a3h (s : Step c9 (a2f o) c H o' c' H') {a : Addr} : M9 o o' a = none ↔ o' a = none := by
 unfold M9
 cases e : o a with
 | none => simp
 | some w =>
  cases w with
  | cell n => simp
  | _ =>
   obtain ⟨w', h2, hw'⟩ := a1m s e (fun z => z)
   simp [h2]
theorem Q7 (s : Step c9 (a2f o) c H o' c' H') : Step c9 o c H (M9 o o') c' H' where
 keep := fun a u e n => s.keep a u e fun w hw hv => by
  cases q : o a with
  | none => have := (forC_none (o := o)).mpr q; rw [hw] at this; cases this
  | some w' =>
   cases w with
   | cell m =>
    have := forC_cell.mp hw
    exact n _ this trivial
   | _ => exact hv
 own := fun a w e n => by
  unfold M9
  rw [e]
  cases w with
  | cell m => exact absurd trivial n
  | _ => rfl
 new := fun a e n => by
  have e2 : M9 o o' a = o' a := by unfold M9; rw [e]
  rw [e2] at n
  exact s.new a (forC_none.mpr e) n
 pre := s.pre
theorem b0s (s : Step c9 (a2f o) c H o' c' H') (q : CS K o' c' S' H') : CS K (M9 o o') c' S' H' :=
 q.same (fun a => (a3h s).symm) fun a n e => by
  unfold M9
  cases e1 : o a with
  | none => exact e
  | some w =>
   cases w with
   | cell m => exact e
   | _ =>
    obtain ⟨w', h2, hw'⟩ := a1m s e1 (fun z => z)
    rw [e] at h2; cases h2; rcases hw' with z | z <;> cases z
theorem b1C (s : Step c9 (a2f o) c H o' c' H') (q : CS K o' c' S' H') (r : RepT K o' c' H' .tmp v t) : RepT K (M9 o o') c' H' .tmp v t :=
 r.same q.trk (fun a e => (a3h s).mpr e) (fun a e => by
  unfold M9
  cases e1 : o a with
  | none => exact e
  | some w =>
   cases w with
   | cell m => exact e
   | _ =>
    obtain ⟨w', h2, hw'⟩ := a1m s e1 (fun z => z)
    first
    | rfl
    | (rw [e] at h2; cases h2; rcases hw' with z | z <;> cases z)) fun a e => by
  unfold M9
  cases e1 : o a with
  | none => exact e
  | some w =>
   cases w with
   | cell m => exact e
   | seen => rfl
   | _ =>
    have h1 : a2f o a = some .prot := by unfold a2f; rw [e1]
    have h2 := s.own a _ h1 (fun z => z)
    rw [e] at h2; cases h2
theorem b5e (nt : NT o) (nt' : NT o') : NT (M9 o o') := fun a e => by
 unfold M9 at e
 cases e1 : o a with
 | none => rw [e1] at e; exact nt' a e
 | some w =>
  rw [e1] at e
  cases w with
  | cell m => exact nt' a e
  | tmp => exact nt a e1
  | prot => cases e
  | seen => cases e
  | slot i => cases e
end
def t9 (f : Fn) (fs : SA) : SE := fun ρ S => R.l (fs ρ S) fun ts S1 => f ts S1
section
variable {G : Cc} {pos : Pos} {e : Expr} {es : List Expr}
theorem b7x {W : WX} {t : TA} {n : Nat} {f : Fn} {fs : SA} (h : AR G W t fs) (hn : ∀ ρ S ts S', fs ρ S = .ok ts S' → ts.length = n) : ER G W (tCallS (spD G.K G.mg n f) (WE W) t) (t9 f fs) := by
 intro σ H ρ S o c Q nt rs p
 unfold t9 at p
 refine h σ H ρ S o c _ nt rs ?_
 cases e0 : fs ρ S with
 | bad => rw [e0] at p; exact p
 | exc e' S' => rw [e0] at p; exact p
 | ok ts S1 =>
  rw [e0] at p
  have hl := hn _ _ _ _ e0
  intro vs o1 c1 H1 s1 nt1 rs1 r1
  have p1 : PostE G W o1 c1 ρ σ H1 (f ts S1) Q := PostE.step s1 p
  refine ⟨by rw [r1.1]; exact hl, ts, S1, a2f o1, c1, ⟨r1.1, fun i v t e1 e2 => ?_⟩, a9c, rs1.cs.same (fun a => forC_none.symm) fun a n e => forC_cell.mpr e, ?_⟩
  ·obtain ⟨q1, q2⟩ := r1.2 i v t e1 e2
   refine ⟨q1.same rs1.cs.trk (fun a e => forC_none.mpr e) (fun a e => by unfold a2f; rw [e]) (fun a e => by unfold a2f; rw [e]), q2⟩
  ·cases e : f ts S1 with
   | ok t S2 =>
    rw [e] at p1
    intro v o' c' H' s q ns r
    exact p1 v (M9 o1 o') c' H' (Q7 s) (rs1.step (Q7 s) (b0s s q)) (b1C s q r)
   | exc e' S2 =>
    rw [e] at p1
    intro cls d o' c' H' s q ns nt' x
    exact p1 cls d (M9 o1 o') c' H' (Q7 s) (rs1.step (Q7 s) (b0s s q)) (b5e nt1 nt') x
   | bad => rw [e] at p1; exact p1.elim
theorem b2g {ρ : En} {S : Sto} {ts : List T} {S' : Sto} (h : m6 ρ S = .ok ts S') : ts.length = 0 := by cases h; rfl
theorem a92 {f : SE} {g : SA} {n : Nat} (hg : ∀ ρ S ts S', g ρ S = .ok ts S' → ts.length = n) : ∀ ρ S ts S', d3 f g ρ S = .ok ts S' → ts.length = n + 1 := by
 intro ρ S ts S' h
 unfold d3 at h
 cases e1 : f ρ S with
 | bad => rw [e1] at h; cases h
 | exc _ _ => rw [e1] at h; cases h
 | ok t S1 =>
  rw [e1, R.l_ok] at h
  cases e2 : g ρ S1 with
  | bad => rw [e2] at h; cases h
  | exc _ _ => rw [e2] at h; cases h
  | ok us S2 =>
   rw [e2, R.l_ok] at h
   cases h
   rw [List.length_cons, hg _ _ _ _ e2]
structure AVn (G : Cc) (es : List Expr) (fs : SA) (n : Nat) : Prop where
 av : AV G es fs
 len : ∀ ρ S ts S', fs ρ S = .ok ts S' → ts.length = n
theorem k9 : AVn G [] m6 0 := ⟨j3, fun _ _ _ _ h => b2g h⟩
theorem d2 {f : SE} {g : SA} {n : Nat} (h1 : EV G e f) (h2 : AVn G es g n) (hs : ∀ env : PySem.Env, starEach (e :: es) env = (false, eval e env) :: starEach es env := by intro _; rfl) : AVn G (e :: es) (d3 f g) (n + 1) :=
 ⟨f6 h1 h2.av hs, a92 h2.len⟩
theorem l7 {x : Str} {p : Pos} {j n : Nat} {f : Fn} {fs : SA} (F : FnD G.P G.w G.K G.mg G.base G.cn j x n f) (ha : AVn G (e :: es) fs n) (hcm : G.hot = none := by rfl) (hj : j ≤ G.k := by (try dsimp only [Cc.blk]); decide) (hg : G.sc.names.lookup x = some .globalImplicit := by rfl) (hdb : (x == ("__debug__" : Str)) = false := by decide)
  (he : ∀ env : PySem.Env, starEach (e :: es) env = (false, eval e env) :: starEach es env := by intro _; rfl) (hpl : ∀ env : PySem.Env, (backTo pos (starEach es env)).any (·.1) = false := by intro _; rfl) : EV G (.Call (.Name x p) (e :: es) [] pos) (t9 f fs) := by
 obtain ⟨⟨t, p1, q1⟩, hl⟩ := ha
 obtain ⟨a, fd, ps, hm, hk, hb, hn, hF⟩ := F.ex
 refine ⟨fun W => tCallS (spD G.K G.mg n f) (WE W) (t W), fun X W k => ?_, fun W => b7x (q1 W) hl⟩
 have hF' : FnOk X.prog X.w X.K X.mg X.base (CXg G.cn X.prog X.w) j a fd ps (spD G.K G.mg n f) := by rw [k.P, k.w, k.K, k.mg, k.base]; exact hF
 exact pe_callS hF' ((k.room0 hcm).mono hj) (k.gl hg) (k.m hm) (by rw [k.K]; exact hk) (by rw [k.K]; exact hb) (fun σ => b3K k.tk σ) (p1 X W k) hdb (he _) (hpl _)

def start0 (n : Nat) (ts : List T) : En := ts.map some ++ List.replicate (n - ts.length) none
abbrev start (N : List Str) (ts : List T) : En := start0 N.length ts
def fnL (n : Nat) (g : SS) : Fn := fun ts S => match g (start0 n ts) S with
 | .nx _ S' => .ok (.val .none) S'
 | .rt t S' => .ok t S'
 | .ex e _ S' => .exc e S'
 | _ => .bad
def B5 : Ow → Bool
 | .slot _ => true
 | _ => false
theorem Z3 {o o1 : Gh} {c c1 : Cs} {H H1 : Hp} (cl : b4R o) (s : Step A0 o c H o1 c1 H1) : Step c9 o c H (q7 B5 o1) c1 H1 where
 keep := fun a u e n => s.keep a u e fun w hw hv => by
  rcases cl a w hw with (h | h) | h
  ·subst h; exact hv
  ·subst h; exact hv
  ·exact n w hw h
 own := fun a w e n => by
  rcases cl a w e with (h | h) | h
  ·subst h
   exact d4 (s.own a _ e (fun z => z)) rfl
  ·subst h
   exact d4 (s.own a _ e (fun z => z)) rfl
  ·exact absurd h n
 new := fun a e n => s.new a e (L4 n)
 pre := s.pre
theorem b0J {o : Gh} (a : Addr) (i : Nat) : q7 B5 o a ≠ some (.slot i) := fun h => by
 have := (E9 h).2
 simp [B5] at this
abbrev fnF (N : List Str) (g : SS) : Fn := fnL N.length g
theorem b9f {cn : Bool} {P : Program} {w : World} {K : PySem.W.Frag} {mg : Str → Option Value} {base : Heap} {N : List Str} {qual : Str} {sc : Scope} {f : Addr} {cdv : Value} {A : Around} {outer : List PySem.Env} {s : Shared} {H : Hp} {E : XK} :
  Tk cn (cxOf (CXg cn P w) P w K mg base N qual sc f cdv A outer s H E) (fun cls d _ H => E cls d H) := by
 cases cn with
 | true => exact L2N.takes_of rfl rfl rfl rfl
 | false => exact L2.takes_of rfl rfl rfl rfl
theorem b6s {P : Program} {w : World} {K : PySem.W.Frag} {mg : Str → Option Value} {base : Heap} {cn : Bool} {k : Nat} {x qual : Str} {st : Stmt} {f : Addr} {fd : FuncData} {N ps : List Str} {g : SS}
  {cod : Option (Addr × Str)} (F : Fun K x qual st f fd) (Sc : FnScope N ps (defScope st)) (hlen : ps.length ≤ N.length) (hco : cod = none ∨ (f = He.fAd K (x, none) ∧ cod = some (He.codeOf K (x, none), qual ++ ".<locals>.")))
  (h : SVs ⟨P, w, K, mg, base, N, defScope st, fun _ => true, k, true, none, cn, true, cod⟩ (defBody st) g) : FnOk P w K mg base (CXg cn P w) (k + 1) f fd ps (spD K mg ps.length (fnF N g)) := by
 obtain ⟨oc, od, kV, doc, pm, an, cdv, ct, osl, rfl, lk, hcd⟩ := F.ex
 refine fn_of lk hcd Sc (fun vs H Q E h => h.1) fun A outer s H vs Q E hr hsp => ?_
 obtain ⟨t, p, q⟩ := h
 obtain ⟨hl, ts, S, o, c, rts, cl, cs, post⟩ := hsp
 have hcod : ∀ c q, cod = some (c, q) → cdv = .ref c ∧ qual ++ ".<locals>." = q := fun c q e => by
  rcases hco with z | ⟨z1, z2⟩
  ·rw [z] at e; cases e
  ·rw [z2] at e
   cases e
   obtain ⟨c, hc⟩ := He.codeIn_ref hcd
   subst hc
   subst z1
   exact ⟨by rw [He.codeOf_eq lk rfl], rfl⟩
 have ok : (⟨P, w, K, mg, base, N, defScope st, fun _ => true, k, true, none, cn, true, cod⟩ : Cc).Ok (cxOf (CXg cn P w) P w K mg base N qual (defScope st) f cdv A outer s H E) (fun cls d _ H => E cls d H) :=
  ⟨rfl, rfl, rfl, rfl, rfl, rfl, rfl, rfl, fun _ => rfl, ⟨hr.dp, hr.un⟩, b9f, PassesOwn.leaving, fun _ => hr.hd, fun _ => ⟨rfl, rfl⟩, fun _ h => (nomatch h), fun _ _ => PassesOwnAt.leaving, hcod⟩
 refine ⟨t _, p _ _ ok, q _ (L2.start N vs) H (BV.start N ts) S o c _ ?_ ⟨?_, ?_, cs⟩ ?_⟩
 ·intro a e
  rcases cl a _ e with (h | h) | h
  ·cases h
  ·cases h
  ·exact h
 ·unfold BV.start BV.start0 L2.start
  rw [List.length_append, List.length_append, List.length_map, List.length_map, List.length_replicate, List.length_replicate, rts.1]
 ·intro i t' e
  unfold BV.start BV.start0 at e
  by_cases hi : i < ts.length
  ·rw [List.getElem?_append_left (by rw [List.length_map]; exact hi), List.getElem?_map] at e
   have hv : i < vs.length := by rw [rts.1]; exact hi
   have e1 : vs[i]? = some vs[i] := List.getElem?_eq_getElem hv
   have e2 : ts[i]? = some t' := by
    cases e3 : ts[i]? with
    | none => rw [e3] at e; cases e
    | some u => rw [e3] at e; simp only [Option.map_some, Option.some.injEq] at e; rw [e]
   obtain ⟨q1, q2⟩ := rts.2 i _ t' e1 e2
   refine ⟨vs[i], ?_, q1.anyW q2⟩
   unfold L2.start
   rw [List.getElem?_append_left (by rw [List.length_map]; exact hv), List.getElem?_map, e1]
   rfl
  ·rw [List.getElem?_append_right (by rw [List.length_map]; omega)] at e
   rw [List.getElem?_replicate] at e
   split at e <;> cases e
 ·unfold fnF fnL at post
  cases e : g (BV.start N ts) S with
  | nx ρ' S' =>
   rw [e] at post
   intro σ' o' c' H' s' nt' rs'
   exact post .non (q7 B5 o') c' H' (Z3 cl s') (rs'.cs.drop fun _ => rfl) b0J (Rep.non)
  | rt t0 S' =>
   rw [e] at post
   intro v o' c' H' s' cs' r'
   exact post v (q7 B5 o') c' H' (Z3 cl s') (cs'.drop fun _ => rfl) b0J (r'.drop cs'.trk rfl)
  | ex e' ρ' S' =>
   rw [e] at post
   intro cls d σ' o' c' H' s' nt' rs' x
   exact post cls d (q7 B5 o') c' H' (Z3 cl s') (rs'.cs.drop fun _ => rfl) b0J (fun a h => nt' a (E9 h).1) x
  | bk ρ' S' => rw [e] at post; exact post.elim
  | ct ρ' S' => rw [e] at post; exact post.elim
  | bad => rw [e] at post; exact post.elim
theorem b3F {P : Program} {w : World} {K : PySem.W.Frag} {mg : Str → Option Value} {base : Heap} {cn : Bool} {k : Nat} {x qual : Str} {st : Stmt} {f : Addr} {fd : FuncData} {N ps : List Str} {g : SS}
  {cod : Option (Addr × Str)} (F : Fun K x qual st f fd) (Sc : FnScope N ps (defScope st)) (hm : mg x = some (.ref f)) (hb : Binds K fd ps []) (hlen : ps.length ≤ N.length) (hco : cod = none ∨ (f = He.fAd K (x, none) ∧ cod = some (He.codeOf K (x, none), qual ++ ".<locals>.")))
  (h : SVs ⟨P, w, K, mg, base, N, defScope st, fun _ => true, k, true, none, cn, true, cod⟩ (defBody st) g) : FnD P w K mg base cn (k + 1) x ps.length (fnF N g) :=
 ⟨f, fd, ps, hm, F.kp, hb, rfl, b6s F Sc hlen hco h⟩
end
end BV
namespace BV
open PySem L2

def reT (i : Nat) (o : Gh) : Gh := fun a => match o a with
 | some .tmp => some (.slot i)
 | some (.slot j) => if j = i then none else some (.slot j)
 | x => x
section
variable {K : PySem.W.Frag} {o o1 o' : Gh} {c c' : Cs} {H H' : Hp} {S S' : Sto} {v : V} {t : T} {w : Ow} {ρ : En} {σ : L2.St} {i : Nat}
theorem X5 {a : Addr} (h : o a = none) : reT i o a = none := by unfold reT; rw [h]
theorem b3a {a : Addr} (h : reT i o a ≠ none) : o a ≠ none := fun e => h (X5 e)
theorem b41 {a : Addr} (h : o a = some .tmp) : reT i o a = some (.slot i) := by unfold reT; rw [h]
theorem b1A {a : Addr} {n : Nat} (h : o a = some (.cell n)) : reT i o a = some (.cell n) := by unfold reT; rw [h]
theorem b1r {a : Addr} (h : o a = some .prot) : reT i o a = some .prot := by unfold reT; rw [h]
theorem a1s {a : Addr} (h : o a = some .seen) : reT i o a = some .seen := by unfold reT; rw [h]
theorem b1I {a : Addr} {j : Nat} (h : o a = some (.slot j)) (n : j ≠ i) : reT i o a = some (.slot j) := by unfold reT; rw [h]; simp [n]
theorem b29 : NT (reT i o) := fun a h => by
 unfold reT at h
 cases e : o a with
 | none => rw [e] at h; cases h
 | some w =>
  rw [e] at h
  cases w with
  | slot j =>
   by_cases q : j = i
   ·simp [q] at h
   ·simp [q] at h
  | tmp => cases h
  | seen => cases h
  | prot => cases h
  | cell n => cases h
theorem RepT.turn {w' : Ow} (tr : Trk o H) (h : ∀ a, o a = none → o' a = none) (hw : ∀ a, o a = some w → o' a = some w') (hp : ∀ a, o a = some .seen → o' a = some .seen) (r : RepT K o c H w v t) : RepT K o' c H w' v t := by
 have k : Kept o H o' H := Kept.same h
 cases t with
 | val d => exact Rep.kept tr k r
 | own xs =>
  obtain ⟨x, vs, e, q, h', z, ra⟩ := r
  exact ⟨x, vs, e, hw _ q, h', z, ra.kept tr k⟩
 | own2 xss =>
  obtain ⟨x, as, e, q, h', nd, z, le, f⟩ := r
  refine ⟨x, as, e, hw _ q, h', nd, z, le, fun i b xs e1 e2 => ?_⟩
  obtain ⟨q', vs, h'', z', ra⟩ := f i b xs e1 e2
  exact ⟨hw _ q', vs, h'', z', ra.kept tr k⟩
 | ownd kvs =>
  obtain ⟨x, ks, vs, ds, e, q, h', z, z2, ra, e'⟩ := r
  exact ⟨x, ks, vs, ds, e, hw _ q, h', z, z2, ra.kept tr k, e'⟩
 | cel n => exact r
 | scr ns =>
  obtain ⟨x, e, z, h'⟩ := r
  refine ⟨x, e, z, ?_⟩
  rcases h' with h' | ⟨h', n⟩ | h'
  ·exact .inl h'
  ·exact .inr (.inl ⟨h', h _ n⟩)
  ·exact .inr (.inr h')
 | exn _ _ _ _ => exact r
 | tree d =>
  obtain ⟨as, r, nd⟩ := r
  exact ⟨as, r.move (fun x u e q => ⟨e, hw _ q⟩) (fun b us z => SqT.kept tr k z), nd⟩
 | rof b u =>
  obtain ⟨x, fv, e, q, h1, h2, h3⟩ := r
  exact ⟨x, fv, e, hp _ q, h1, h2, h3.moved tr k hp⟩
 | recs b ns => exact RcsR.move (fun x u e q => ⟨e, hw _ q⟩) k (fun _ _ e => e) r
theorem CS.turn (q : CS K o c S H) (h : ∀ a, o a = none → o' a = none) (hc : ∀ a n, o a = some (.cell n) → o' a = some (.cell n)) (hn : ∀ a, o' a ≠ none → o a ≠ none) : CS K o' c S H :=
 q.move (Kept.same h) (fun a n e => ⟨hc a n e, fun u hu => hu⟩) (q.trk.same hn)
theorem RS.put (rs : RS K o c ρ S σ H) (r : RepT K o c H .tmp v t) : RS K (reT i o) c (ρ.set i (some t)) S (σ.set i (some v)) H :=
 ⟨by rw [List.length_set, List.length_set]; exact rs.len, fun j t' e => by
  by_cases q : j = i
  ·subst q
   by_cases hl : j < ρ.length
   ·rw [List.getElem?_set_self hl] at e
    simp only [Option.some.injEq] at e
    subst e
    exact ⟨v, by rw [List.getElem?_set_self (by rw [← rs.len]; exact hl)], r.turn rs.cs.trk (fun a e => X5 e) (fun a e => b41 e) fun a e => a1s e⟩
   ·rw [List.getElem?_eq_none (by rw [List.length_set]; omega)] at e; cases e
  ·rw [List.getElem?_set_ne (Ne.symm q)] at e
   obtain ⟨v', e1, r'⟩ := rs.slot j t' e
   exact ⟨v', by rw [List.getElem?_set_ne (Ne.symm q)]; exact e1, r'.turn rs.cs.trk (fun a e => X5 e) (fun a e => b1I e q) fun a e => a1s e⟩,
  rs.cs.turn (fun a e => X5 e) (fun a n e => b1A e) fun a e => b3a e⟩
theorem Step.re (s : Step A0 o c H o1 c' H') : Step A0 o c H (reT i o1) c' H' where
 keep := s.keep
 own := fun a w e n => by
  have h := s.own a w e n
  cases w with
  | prot => exact b1r h
  | seen => exact a1s h
  | _ => exact absurd trivial n
 new := fun a e n => s.new a e (b3a n)
 pre := s.pre
end

def sE (f : SE) (k : T → En → Sto → Fl) : SS := fun ρ S => match f ρ S with
 | .ok t S1 => k t ρ S1
 | .exc e S1 => .ex e ρ S1
 | .bad => .bad
section
variable {G : Cc} {W : WX} {o o1 : Gh} {c c1 : Cs} {ρ : En} {σ : L2.St} {H H1 : Hp} {pos : Pos} {a b : Expr} {f f1 f2 f3 : SE} {e : Expr} {Dn : Ends} {t : TE}
theorem ER.s {k : T → En → Sto → Fl} {S : Sto} {Q : VK} (h : ER G W t f) (nt : NT o) (rs : RS G.K o c ρ S σ H) (p : PostS G W o c H (sE f k ρ S) Dn)
  (q : ∀ t S1 v o1 c1 H1, Step c9 o c H o1 c1 H1 → RS G.K o1 c1 ρ S1 σ H1 → RepT G.K o1 c1 H1 .tmp v t → PostS G W o1 c1 H1 (k t ρ S1) Dn → Q v H1) : t σ H Q := by
 refine h σ H ρ S o c Q nt rs ?_
 unfold sE at p
 cases e : f ρ S with
 | ok t S1 =>
  rw [e] at p
  exact fun v o' c' H' s rs' r' => q t S1 v o' c' H' s rs' r' (PostS.step s.weak p)
 | exc e S1 =>
  rw [e] at p
  exact fun cls d o' c' H' s rs' nt' x => p cls d σ o' c' H' s.weak nt' rs' x
 | bad => rw [e] at p; exact p
def sD (f : SE) (k : D → En → Sto → Fl) : SS := sE f fun t ρ S => match BV.asD t with | some d => k d ρ S | none => .bad
theorem URd.s {k : BV.D → En → Sto → Fl} {S : Sto} {Q : VK} (h : URd G W t f) (nt : NT o) (rs : RS G.K o c ρ S σ H) (p : PostS G W o c H (sD f k ρ S) Dn)
  (q : ∀ d S1 v o1 c1 H1, Step c9 o c H o1 c1 H1 → NT o1 → RS G.K o1 c1 ρ S1 σ H1 → RepU G.K o1 H1 v d → PostS G W o1 c1 H1 (k d ρ S1) Dn → Q v H1) : t σ H Q := by
 refine h σ H ρ S o c Q nt rs ?_
 unfold sD sE at p
 cases e : f ρ S with
 | ok t S1 =>
  rw [e] at p
  cases e1 : asD t with
  | none => simp only [e1] at p; exact p.elim
  | some d =>
   simp only [e1] at p
   exact ⟨d, e1, fun v o' c' H' s nt' rs' r' => q d S1 v o' c' H' s nt' rs' r' (PostS.step s.weak p)⟩
 | exc e S1 =>
  rw [e] at p
  exact fun cls d o' c' H' s rs' nt' x => p cls d σ o' c' H' s.weak nt' rs' x
 | bad => rw [e] at p; exact p

def s8 (i : Nat) (f : SE) : SS := sE f fun t ρ S => .nx (ρ.set i (some t)) S
theorem i6 (i : Nat) {x : Str} {pos' : Pos} (h : EV G e f) (hN : G.N[i]? = some x := by rfl) (hx : Loc G.sc x := by first | exact Or.inl rfl | exact Or.inr rfl) (nd : G.N.Nodup := by (try dsimp only [Cc.blk]); decide +kernel)
  (hs : ∀ env : PySem.Env, env.scope = G.sc → swapsWith e (some (.Name x pos')) pos.line env = pure false := by intro _ _; rfl) (hf : G.fn x = true ∨ G.sc.names.lookup x = some .local := by first | exact Or.inl rfl | exact Or.inr rfl) : SV G (.Assign [.Name x pos'] e pos) (s8 i f) := by
 obtain ⟨t, p, q⟩ := h
 refine ⟨fun W => tAsg (t W) (gName i), fun X W k => ps_set (k.nd nd) (k.at hN) (k.loc hx) (p X W k) (hs _ k.sc) (k.hf hf), fun W σ H ρ S o c D nt rs ps => ?_⟩
 exact (q W).s nt rs ps fun t S1 v o1 c1 H1 s1 rs1 r1 p1 => p1 _ (reT i o1) c1 H1 Step.refl.re b29 (rs1.put r1)
def O3 (f : SE) : SS := sE f fun t _ S => .rt t S
theorem w1 (h : EV G e f) : SV G (.Return (some e) pos) (O3 f) := by
 obtain ⟨t, p, q⟩ := h
 refine ⟨fun W => tRet (t W), fun X W k => ps_ret (p X W k), fun W σ H ρ S o c D nt rs ps => ?_⟩
 exact (q W).s nt rs ps fun t S1 v o1 c1 H1 s1 rs1 r1 p1 => p1 v o1 c1 H1 Step.refl rs1.cs r1
def U8 (i : Nat) : SS := fun ρ S => match ρ[i]? with
 | some (some t) => .rt t S
 | _ => .bad
def toT (i : Nat) (o : Gh) : Gh := fun a => if o a = some (.slot i) then some .tmp else o a
theorem toT_none {i : Nat} {a : Addr} : toT i o a = none ↔ o a = none := by
 unfold toT
 by_cases h : o a = some (.slot i)
 ·rw [if_pos h, h]; simp
 ·rw [if_neg h]
theorem F8 (i : Nat) {x : Str} {xpos : Pos} (hN : G.N[i]? = some x := by rfl) (hv : Vis G.sc x := by first | exact Or.inl rfl | exact Or.inr (Or.inl rfl) | exact Or.inr (Or.inr rfl))
  (hd : (x == ("__debug__" : Str)) = false := by decide) (hcd : (x == ("__classdict__" : Str)) = false := by decide) : SV G (.Return (some (.Name x xpos)) pos) (U8 i) := by
 refine ⟨fun _ => tRet (tVar i), fun X W k => ps_ret (pe_var (k.at hN) (k.vis hv) hd hcd), fun W σ H ρ S o c D nt rs p => ?_⟩
 unfold U8 at p
 split at p
 ·rename_i t e
  obtain ⟨v, e1, r⟩ := rs.slot i t e
  refine ⟨v, e1, p v (toT i o) c H ⟨fun a u e _ => e, fun a w e n => ?_, fun a e n => absurd (toT_none.mpr e) n, List.prefix_refl c⟩ (rs.cs.turn (fun a e => toT_none.mpr e) (fun a n e => ?_) fun a n e => n (toT_none.mpr e))
   (r.turn rs.cs.trk (fun a e => toT_none.mpr e) (fun a e => by unfold toT; rw [if_pos e]) fun a e => by unfold toT; rw [if_neg (by rw [e]; simp)]; exact e)⟩
  ·unfold toT
   rw [if_neg (fun z => by rw [e] at z; cases z; exact n trivial)]
   exact e
  ·unfold toT
   rw [if_neg (fun z => by rw [e] at z; cases z)]
   exact e
 ·exact p.elim
def sIf (g : SB) (f1 f2 : SS) : SS := fun ρ S => match g ρ S with
 | .ok b S1 => if b = true then f1 ρ S1 else f2 ρ S1
 | .exc e S1 => .ex e ρ S1
 | .bad => .bad
theorem F5 {cc : Expr} {as bs : List Stmt} {g : SB} {u1 u2 : SS} (h : TV G cc g) (h1 : SVs G as u1) (h2 : SVs G bs u2) : SV G (.If cc as bs pos) (sIf g u1 u2) := by
 obtain ⟨t, p, q⟩ := h
 obtain ⟨t1, p1, q1⟩ := h1
 obtain ⟨t2, p2, q2⟩ := h2
 refine ⟨fun W => tIfS (t W) (t1 W) (t2 W), fun X W k => ps_if (p X W k) (p1 X W k) (p2 X W k), fun W σ H ρ S o c D nt rs ps => ?_⟩
 refine q W σ H ρ S o c _ nt rs ?_
 unfold sIf at ps
 cases e : g ρ S with
 | ok b S1 =>
  rw [e] at ps
  intro o1 c1 H1 s1 nt1 rs1
  cases b with
  | true =>
   rw [if_pos rfl]
   simp only [if_true] at ps
   exact q1 W σ H1 ρ S1 o1 c1 D nt1 rs1 (PostS.step s1.weak ps)
  | false =>
   rw [if_neg Bool.false_ne_true]
   simp only [Bool.false_eq_true, if_false] at ps
   exact q2 W σ H1 ρ S1 o1 c1 D nt1 rs1 (PostS.step s1.weak ps)
 | exc e S1 =>
  rw [e] at ps
  exact fun cls d o' c' H' s rs' nt' x => ps cls d σ o' c' H' s.weak nt' rs' x
 | bad => rw [e] at ps; exact ps
def b4N (i : Nat) : Ow → Bool
 | .slot j => decide (j = i)
 | _ => false
def fz (i : Nat) (ρ : En) : Option En := match ρ[i]? with
 | some (some t) => (asD t).map fun d => ρ.set i (some (.val d))
 | _ => none
def sFz (i : Nat) (g : SS) : SS := fun ρ S => match fz i ρ with
 | some ρ' => g ρ' S
 | none => .bad
theorem a7q (i : Nat) {sts : List Stmt} {g : SS} (h : SVs G sts g) : SVs G sts (sFz i g) := by
 obtain ⟨t, p, q⟩ := h
 refine ⟨t, p, fun W σ H ρ S o c D nt rs ps => ?_⟩
 unfold sFz fz at ps
 cases e : ρ[i]? with
 | none => rw [e] at ps; exact ps.elim
 | some u =>
  cases u with
  | none => rw [e] at ps; exact ps.elim
  | some tt =>
   rw [e] at ps
   cases e1 : asD tt with
   | none => simp only [e1, Option.map_none] at ps; exact ps.elim
   | some d =>
    simp only [e1, Option.map_some] at ps
    obtain ⟨v, ev, r⟩ := rs.slot i tt e
    have hi := (List.getElem?_eq_some_iff.mp e).1
    -- its owner: temporary, then let go
    have r1 : RepT G.K (toT i o) c H .tmp v tt := r.turn rs.cs.trk (fun a e => toT_none.mpr e) (fun a e => by unfold toT; rw [if_pos e]) fun a e => by unfold toT; rw [if_neg (by rw [e]; simp)]; exact e
    have tr1 : Trk (toT i o) H := rs.cs.trk.same fun a n e => n (toT_none.mpr e)
    have r2 := r1.toD tr1 e1
    have un : ∀ a, unT (toT i o) a = q7 (b4N i) o a := fun a => by
     unfold unT q7 toT
     by_cases h : o a = some (.slot i)
     ·rw [if_pos h, h]; simp [a8Q, b4N]
     ·rw [if_neg h]
      cases e : o a with
      | none => rfl
      | some w =>
       cases w with
       | slot j =>
        have : ¬ j = i := fun z => h (by rw [e, z])
        simp [a8Q, b4N, this]
       | tmp => exact absurd e (nt a)
       | _ => rfl
    have un' : unT (toT i o) = q7 (b4N i) o := funext un
    rw [un'] at r2
    have s : Step A0 o c H (q7 (b4N i) o) c H := ⟨fun a u e _ => e, fun a w e n => d4 e (by cases w <;> first | rfl | exact absurd trivial n), fun a e n => absurd (l9 e) n, List.prefix_refl c⟩
    refine q W σ H _ S (q7 (b4N i) o) c D (fun a h => nt a (E9 h).1) ⟨by rw [List.length_set]; exact rs.len, fun j t' ej => ?_, rs.cs.drop fun _ => rfl⟩ (PostS.step s ps)
    by_cases hj : j = i
    ·subst hj
     rw [List.getElem?_set_self hi] at ej
     simp only [Option.some.injEq] at ej
     subst ej
     exact ⟨v, ev, r2⟩
    ·rw [List.getElem?_set_ne (Ne.symm hj)] at ej
     obtain ⟨v', e2, r3⟩ := rs.slot j t' ej
     exact ⟨v', e2, r3.drop rs.cs.trk (by simp [b4N, hj])⟩
end
end BV
namespace BV
open PySem L2

abbrev BT1 := D → En → Option En
def GR (K : PySem.W.Frag) (L : List Nat) (g : TG) (b : BT1) : Prop := ∀ (σ : L2.St) (H : Hp) (ρ ρ' : En) (S : Sto) (o : Gh) (c : Cs) (v : V) (d : D) (Q : L2.St → Hp → Prop), NT o → RS K o c ρ S σ H → Rep K o H v d → b d ρ = some ρ' →
 (∀ σ', RS K o c ρ' S σ' H → (∀ (j : Nat), j ∉ L → σ'[j]? = σ[j]?) → σ'.length = σ.length → Q σ' H) → g v σ H Q
def GV (G : Cc) (tg : Expr) (L : List Nat) (b : BT1) : Prop := ∃ g : TG, (∀ X W, G.Ok X W → PG X tg g) ∧ GR G.K L g b
def f9 (i : Nat) : BT1 := fun d ρ => some (ρ.set i (some (.val d)))
theorem RS.putV {K : PySem.W.Frag} {o : Gh} {c : Cs} {ρ : En} {S : Sto} {σ : L2.St} {H : Hp} {v : V} {d : D} {i : Nat} (rs : RS K o c ρ S σ H) (r : Rep K o H v d) : RS K o c (ρ.set i (some (.val d))) S (σ.set i (some v)) H :=
 ⟨by rw [List.length_set, List.length_set]; exact rs.len, fun j t' e => by
  by_cases q : j = i
  ·subst q
   by_cases hl : j < ρ.length
   ·rw [List.getElem?_set_self hl] at e
    simp only [Option.some.injEq] at e
    subst e
    exact ⟨v, by rw [List.getElem?_set_self (by rw [← rs.len]; exact hl)], r⟩
   ·rw [List.getElem?_eq_none (by rw [List.length_set]; omega)] at e; cases e
  ·rw [List.getElem?_set_ne (Ne.symm q)] at e
   obtain ⟨v', e1, r'⟩ := rs.slot j t' e
   exact ⟨v', by rw [List.getElem?_set_ne (Ne.symm q)]; exact e1, r'⟩, rs.cs⟩
section
variable {G : Cc} {W : WX} {pos : Pos}
theorem i4 (i : Nat) {x : Str} (hN : G.N[i]? = some x := by rfl) (hx : Loc G.sc x := by first | exact Or.inl rfl | exact Or.inr rfl) (nd : G.N.Nodup := by (try dsimp only [Cc.blk]); decide +kernel)
  (hf : G.fn x = true ∨ G.sc.names.lookup x = some .local := by first | exact Or.inl rfl | exact Or.inr rfl) : GV G (.Name x pos) [i] (f9 i) := by
 refine ⟨gName i, fun X W k => pg_name (k.nd nd) (k.at hN) (k.loc hx) (k.hf hf), fun σ H ρ ρ' S o c v d Q nt rs r e q => ?_⟩
 cases e
 exact q _ (rs.putV r) (fun j hj => by rw [List.getElem?_set_ne (fun z => hj (by simp [z]))]) (by rw [List.length_set])
abbrev BTs := List D → En → Option En
def GRs (K : PySem.W.Frag) (L : List Nat) (g : TGs) (b : BTs) : Prop := ∀ (σ : L2.St) (H : Hp) (ρ ρ' : En) (S : Sto) (o : Gh) (c : Cs) (vs : List V) (ds : List D) (Q : L2.St → Hp → Prop), NT o → RS K o c ρ S σ H → RepAll K o H vs ds → b ds ρ = some ρ' →
 (∀ σ', RS K o c ρ' S σ' H → (∀ (j : Nat), j ∉ L → σ'[j]? = σ[j]?) → σ'.length = σ.length → Q σ' H) → g vs σ H Q
def GVs (G : Cc) (tg : List Expr) (L : List Nat) (b : BTs) : Prop := ∃ g : TGs, (∀ X W, G.Ok X W → PGs X tg g) ∧ GRs G.K L g b
def a1K : BTs := fun ds ρ => match ds with | [] => some ρ | _ => none
def o8 (b : BT1) (bs : BTs) : BTs := fun ds ρ => match ds with | d :: r => (b d ρ).bind (bs r) | [] => none
theorem I4 : GVs G [] [] a1K := by
 refine ⟨gNil, fun X W k => pgs_nil, fun σ H ρ ρ' S o c vs ds Q nt rs r e q => ?_⟩
 cases r with
 | nil =>
  cases e
  exact ⟨rfl, q σ rs (fun _ _ => rfl) rfl⟩
 | cons _ _ _ _ _ _ => cases e
theorem k8 {e : Expr} {es : List Expr} {L1 L2 : List Nat} {b : BT1} {bs : BTs} (h1 : GV G e L1 b) (h2 : GVs G es L2 bs)
  (hs : ∀ env : PySem.Env, (assignEach (e :: es) env).map (·.2) = assign e env :: (assignEach es env).map (·.2) := by intro _; rfl) : GVs G (e :: es) (L1 ++ L2) (o8 b bs) := by
 obtain ⟨g1, p1, q1⟩ := h1
 obtain ⟨g2, p2, q2⟩ := h2
 refine ⟨gCons g1 g2, fun X W k => pgs_cons (p1 X W k) (p2 X W k) (hs _), fun σ H ρ ρ' S o c vs ds Q nt rs r e q => ?_⟩
 cases r with
 | nil => cases e
 | cons v d vs ds r1 r2 =>
  have e' : (b d ρ).bind (bs ds) = some ρ' := e
  cases e1 : b d ρ with
  | none => rw [e1] at e'; cases e'
  | some ρ1 =>
   rw [e1] at e'
   refine ⟨v, vs, rfl, q1 σ H ρ ρ1 S o c v d _ nt rs r1 e1 fun σ1 rs1 f1 l1 => ?_⟩
   refine q2 σ1 H ρ1 ρ' S o c vs ds Q nt rs1 r2 e' fun σ2 rs2 f2 l2 => ?_
   refine q σ2 rs2 (fun j hj => ?_) (l2.trans l1)
   rw [List.mem_append, not_or] at hj
   rw [f2 j hj.2, f1 j hj.1]
def a0S (n : Nat) (bs : BTs) : BT1 := fun d ρ => match d with
 | .tuple ds => if ds.length = n then bs ds ρ else none
 | .list ds => if ds.length = n then bs ds ρ else none
 | _ => none
theorem b86 {X : Cx} {tg : Expr} {g g' : TG} (h : PG X tg g) (h' : PG X tg g') : PG X tg (fun v σ H Q => g v σ H Q ∨ g' v σ H Q) := ⟨fun pins s σ H v u Q I r q => q.elim (h.run pins s σ H v u Q I r) (h'.run pins s σ H v u Q I r)⟩
theorem Q9 {es : List Expr} {kk n : Nat} {L : List Nat} {bs : BTs} (h : GVs G es L bs) (hcm : G.hot = none := by rfl) (hn : ∀ env : PySem.Env, (assignEach es env).length = n := by intro _; rfl) (hst : ∀ env : PySem.Env, (assignEach es env).findIdx? (·.1) = none := by intro _; rfl) :
  GV G (.Tuple es kk pos) L (a0S n bs) := by
 obtain ⟨g, p, q⟩ := h
 refine ⟨fun v σ H Q => gTup G.K n g v σ H Q ∨ gLst G.K n g v σ H Q, fun X W k => ?_, fun σ H ρ ρ' S o c v d Q nt rs r e qq => ?_⟩
 ·have t1 := pg_tup (pos := pos) (k := kk) (k.calm hcm) (p X W k) (hn _) (hst _)
  have t2 := pg_lst (pos := pos) (k := kk) (k.calm hcm) (p X W k) (hn _) (hst _)
  rw [k.K] at t1 t2
  exact b86 t1 t2
 cases d with
 | tuple ds =>
  have e' : (if ds.length = n then bs ds ρ else none) = some ρ' := e
  by_cases hl : ds.length = n
  ·rw [if_pos hl] at e'
   obtain ⟨a, vs, e1, h1, z1, ra⟩ := r.tupV
   exact .inl ⟨a, vs, e1, h1, by rw [ra.length]; exact hl, q σ H ρ ρ' S o c vs ds Q nt rs ra e' qq⟩
  ·rw [if_neg hl] at e'; cases e'
 | list ds =>
  have e' : (if ds.length = n then bs ds ρ else none) = some ρ' := e
  by_cases hl : ds.length = n
  ·rw [if_pos hl] at e'
   obtain ⟨a, vs, e1, h1, _, z1, ra⟩ := r.lstV
   exact .inr ⟨a, vs, e1, SqL.of h1, by rw [ra.length]; exact hl, q σ H ρ ρ' S o c vs ds Q nt rs ra e' qq⟩
  ·rw [if_neg hl] at e'; cases e'
 | _ => cases e
end

def b3z (vol : Ow → Prop) (K : PySem.W.Frag) (J : It) (o : Gh) (c : Cs) (H : Hp) (ds : List D) : Prop := ds.length ≤ sizeLine ∧ ∀ o1 c1 H1, Step vol o c H o1 c1 H1 → Trk o1 H1 → ∀ i, (ds.length ≤ i → J.stop i H1) ∧
 ∀ d, ds[i]? = some d → J.go i H1 ∧ ∀ x H2, J.yld i H1 x H2 → (∀ a u, H1 a = some u → H2 a = some u) ∧ Rep K o1 H2 x d
def b4u (vol : Ow → Prop) (G : Cc) (W : WX) (o : Gh) (c : Cs) (ρ : En) (σ : L2.St) (H : Hp) (r : R (List D)) (Q : It → Hp → Prop) : Prop := match r with
 | .ok ds S' => ∀ J o' c' H', Step c9 o c H o' c' H' → NT o' → RS G.K o' c' ρ S' σ H' → b3z vol G.K J o' c' H' ds → Q J H'
 | .exc e S' => ∀ cls d o' c' H', Step c9 o c H o' c' H' → RS G.K o' c' ρ S' σ H' → NT o' → b1f G.mg H' cls d e → W cls d σ H'
 | .bad => False
abbrev SI := En → Sto → R (List D)
def IR (vol : Ow → Prop) (G : Cc) (W : WX) (t : TI) (f : SI) : Prop := ∀ (σ : L2.St) (H : Hp) (ρ : En) (S : Sto) (o : Gh) (c : Cs) (Q : It → Hp → Prop), NT o → RS G.K o c ρ S σ H → b4u vol G W o c ρ σ H (f ρ S) Q → t σ H Q
def IV (vol : Ow → Prop) (G : Cc) (tg e : Expr) (f : SI) : Prop := ∃ t : WX → TI, (∀ X W, G.Ok X W → PI X tg e (t W)) ∧ ∀ W, IR vol G W (t W) f
def b5y : D → Option (List D)
 | .list xs => some xs
 | .tuple xs => some xs
 | .str x => some (x.cps.toList.map fun c => .str ⟨#[c]⟩)
 | _ => none
def a0X (f : SE) : SI := fun ρ S => match f ρ S with
 | .ok t S1 => (match (asD t).bind b5y with | some ds => .ok ds S1 | none => .bad)
 | .exc e S1 => .exc e S1
 | .bad => .bad
theorem b1v {X : Cx} {tg e : Expr} {w w' : TI} (h : PI X tg e w) (h' : PI X tg e w') : PI X tg e (fun σ H R => w σ H R ∨ w' σ H R) := ⟨fun pins s σ H R I q => q.elim (h.run pins s σ H R I) (h'.run pins s σ H R I)⟩
section
variable {G : Cc} {W : WX} {pos : Pos} {e tg : Expr} {f : SE} {vol : Ow → Prop}
theorem SqT.stay {K : PySem.W.Frag} {o o1 : Gh} {c c1 : Cs} {H H1 : Hp} (tr : Trk o H) (s : Step vol o c H o1 c1 H1) {a : Addr} {vs : List V} (h : SqT K H a vs) : SqT K H1 a vs := BV.SqT.kept tr s.kept h
theorem b0l {K : PySem.W.Frag} {o : Gh} {c : Cs} {H : Hp} {a : Addr} {vs : List V} {ds : List D} (tr : Trk o H) (h : H a = some (.lst vs)) (n : ∀ w, o a = some w → ¬ vol w) (z : vs.length ≤ sizeLine) (r : RepAll K o H vs ds) : b3z vol K (Itl K a) o c H ds := by
 refine ⟨by rw [← r.length]; exact z, fun o1 c1 H1 s tr1 i => ?_⟩
 have h1 := s.keep a _ h n
 have r1 := r.step tr s
 refine ⟨fun hl => ⟨vs, .of h1, by rw [r.length]; exact hl⟩, fun d e => ?_⟩
 obtain ⟨v, e1, rv⟩ := r1.get e
 refine ⟨⟨vs, v, .of h1, e1⟩, fun x H2 y => ?_⟩
 obtain ⟨e2, y⟩ := y
 have e3 := y vs (.of h1)
 rw [e1] at e3
 cases e3
 subst e2
 exact ⟨fun _ _ q => q, rv⟩
theorem b3r {K : PySem.W.Frag} {o : Gh} {c : Cs} {H : Hp} {a : Addr} {vs : List V} {ds : List D} (tr : Trk o H) (h : SqT K H a vs) (z : vs.length ≤ sizeLine) (r : RepAll K o H vs ds) : b3z vol K (Itt K a) o c H ds := by
 refine ⟨by rw [← r.length]; exact z, fun o1 c1 H1 s tr1 i => ?_⟩
 have h1 := SqT.stay tr s h
 have r1 := r.step tr s
 refine ⟨fun hl => ⟨vs, h1, by rw [r.length]; exact hl⟩, fun d e => ?_⟩
 obtain ⟨v, e1, rv⟩ := r1.get e
 refine ⟨⟨vs, v, h1, e1⟩, fun x H2 y => ?_⟩
 obtain ⟨e2, y⟩ := y
 have e3 := y vs h1
 rw [e1] at e3
 cases e3
 subst e2
 exact ⟨fun _ _ q => q, rv⟩
theorem b3i {K : PySem.W.Frag} {o : Gh} {c : Cs} {H : Hp} {x : Str} (hx : PyData.strOk x = true) (hl : x.length ≤ sizeLine) : b3z vol K (Its x) o c H (x.cps.toList.map fun c => .str ⟨#[c]⟩) := by
 have e0 : (x.cps.toList.map fun c => (PyData.str ⟨#[c]⟩)).length = x.cps.size := by rw [List.length_map]; simp
 refine ⟨by rw [e0]; exact hl, fun o1 c1 H1 s tr1 i => ⟨fun h => by rw [e0] at h; exact h, fun d e => ?_⟩⟩
 rw [List.getElem?_map] at e
 cases q : x.cps.toList[i]? with
 | none => rw [q] at e; cases e
 | some m =>
  rw [q] at e
  simp only [Option.map_some, Option.some.injEq] at e
  subst e
  have hi : i < x.cps.size := by have := (List.getElem?_eq_some_iff.mp q).1; simpa using this
  refine ⟨hi, fun y H2 yy => ?_⟩
  obtain ⟨e1, c', e2, e3⟩ := yy
  have : x.cps.toList[i]? = some c' := by rw [← e2]; simp
  rw [q] at this
  cases this
  subst e1 e3
  exact ⟨fun _ _ q => q, .str _ (a2P hx (List.mem_of_getElem? q)) a6G⟩
theorem b0S (h : EV G e f) : IV vol G tg e (a0X f) := by
 obtain ⟨t, p, q⟩ := h
 refine ⟨fun W σ H R => (iList G.K (t W) σ H R ∨ iTup G.K (t W) σ H R) ∨ iStr (t W) σ H R, fun X W k => ?_, fun W σ H ρ S o c Q nt rs ps => ?_⟩
 ·have := b1v (b1v (pi_list (tg := tg) (p X W k)) (pi_tup (p X W k))) (pi_str (p X W k))
  rw [k.K] at this
  exact this
 unfold a0X at ps
 cases e : f ρ S with
 | bad => rw [e] at ps; exact ps.elim
 | exc e' S' =>
  rw [e] at ps
  refine .inl (.inl (q W σ H ρ S o c _ nt rs ?_))
  rw [e]; exact ps
 | ok t0 S' =>
  rw [e] at ps
  cases e1 : asD t0 with
  | none => simp only [e1, Option.bind_none] at ps; exact ps.elim
  | some d =>
   simp only [e1, Option.bind_some] at ps
   cases d with
   | list xs =>
    refine .inl (.inl (q W σ H ρ S o c _ nt rs ?_))
    rw [e]
    intro v o' c' H' s rs' r'
    have r2 := r'.toD rs'.cs.trk e1
    obtain ⟨a, vs, e2, h1, h2, h3, h4⟩ := r2.lstV
    exact ⟨a, e2, ⟨vs, .of h1⟩, ps _ (unT o') c' H' (s.untmp nt) B7 rs'.untmp (b0l rs'.untmp.cs.trk h1 (fun w hw => by rw [h2] at hw; cases hw) h3 h4)⟩
   | tuple xs =>
    refine .inl (.inr (q W σ H ρ S o c _ nt rs ?_))
    rw [e]
    intro v o' c' H' s rs' r'
    have r2 := r'.toD rs'.cs.trk e1
    obtain ⟨a, vs, e2, h1, h3, h4⟩ := r2.tupV
    exact ⟨a, e2, ⟨vs, h1⟩, ps _ (unT o') c' H' (s.untmp nt) B7 rs'.untmp (b3r rs'.untmp.cs.trk h1 h3 h4)⟩
   | str x =>
    refine .inr (q W σ H ρ S o c _ nt rs ?_)
    rw [e]
    intro v o' c' H' s rs' r'
    have r2 := r'.toD rs'.cs.trk e1
    obtain ⟨e2, h1, h2⟩ := r2.strV
    exact ⟨x, e2, ps _ (unT o') c' H' (s.untmp nt) B7 rs'.untmp (b3i h1 h2)⟩
   | _ => exact ps.elim
theorem a27 (h : UV G e f) : IV c9 G tg e (a0X f) := by
 obtain ⟨t, p, q⟩ := h
 refine ⟨fun W σ H R => (iList G.K (t W) σ H R ∨ iTup G.K (t W) σ H R) ∨ iStr (t W) σ H R, fun X W k => ?_, fun W σ H ρ S o c Q nt rs ps => ?_⟩
 ·have := b1v (b1v (pi_list (tg := tg) (p X W k)) (pi_tup (p X W k))) (pi_str (p X W k))
  rw [k.K] at this
  exact this
 unfold a0X at ps
 cases e : f ρ S with
 | bad => rw [e] at ps; exact ps.elim
 | exc e' S' =>
  rw [e] at ps
  refine .inl (.inl (q W σ H ρ S o c _ nt rs ?_))
  rw [e]; exact ps
 | ok t0 S' =>
  rw [e] at ps
  cases e1 : asD t0 with
  | none => simp only [e1, Option.bind_none] at ps; exact ps.elim
  | some d =>
   simp only [e1, Option.bind_some] at ps
   cases d with
   | list xs =>
    refine .inl (.inl (q W σ H ρ S o c _ nt rs ?_))
    rw [e]
    refine ⟨_, e1, fun v o' c' H' s nt' rs' r2 => ?_⟩
    obtain ⟨a, vs, e2, h1, h2, h3, h4⟩ := r2.lstV
    exact ⟨a, e2, ⟨vs, .of h1⟩, ps _ o' c' H' s nt' rs' (b0l rs'.cs.trk h1 h2 h3 h4)⟩
   | tuple xs =>
    refine .inl (.inr (q W σ H ρ S o c _ nt rs ?_))
    rw [e]
    refine ⟨_, e1, fun v o' c' H' s nt' rs' r2 => ?_⟩
    obtain ⟨a, vs, e2, h1, h3, h4⟩ := r2.tupV
    exact ⟨a, e2, ⟨vs, h1⟩, ps _ o' c' H' s nt' rs' (b3r rs'.cs.trk h1 h3 h4)⟩
   | str x =>
    refine .inr (q W σ H ρ S o c _ nt rs ?_)
    rw [e]
    refine ⟨_, e1, fun v o' c' H' s nt' rs' r2 => ?_⟩
    obtain ⟨e2, h1, h2⟩ := r2.strV
    exact ⟨x, e2, ps _ o' c' H' s nt' rs' (b3i h1 h2)⟩
   | _ => exact ps.elim
end
end BV
namespace BV
open PySem L2

def a7J (b : BT1) (body : SS) : List D → SS
 | [], ρ, S => .nx ρ S
 | d :: ds, ρ, S => match b d ρ with
  | none => .bad
  | some ρ1 => match body ρ1 S with
   | .nx ρ2 S2 => a7J b body ds ρ2 S2
   | .ct ρ2 S2 => a7J b body ds ρ2 S2
   | .bk ρ2 S2 => .nx ρ2 S2
   | x => x
def a0Y (src : SI) (b : BT1) (body : SS) : SS := fun ρ S => match src ρ S with
 | .ok ds S1 => a7J b body ds ρ S1
 | .exc e S1 => .ex e ρ S1
 | .bad => .bad
section
variable {G : Cc} {W : WX} {pos : Pos} {e tg : Expr} {vol : Ow → Prop}
theorem J9 {o : Gh} {c : Cs} {H H2 : Hp} (h : ∀ a u, H a = some u → H2 a = some u) : Step vol o c H o c H2 := ⟨fun a u e _ => h a u e, fun _ _ e _ => e, fun _ e n => absurd e n, List.prefix_refl c⟩
theorem a4p {K : PySem.W.Frag} {o : Gh} {c : Cs} {S : Sto} {H H2 : Hp} (q : CS K o c S H) (h : ∀ a u, H a = some u → H2 a = some u) : CS K o c S H2 :=
 q.move (J9 (vol := c9) (c := c) h).kept (fun a n e => ⟨e, fun u hu => h a u hu⟩) fun a n => by
  obtain ⟨u, e, q⟩ := q.trk a n
  exact ⟨u, h a u e, q⟩
theorem b3I {K : PySem.W.Frag} {o : Gh} {c : Cs} {ρ : En} {S : Sto} {σ : L2.St} {H H2 : Hp} (r : RS K o c ρ S σ H) (h : ∀ a u, H a = some u → H2 a = some u) : RS K o c ρ S σ H2 := r.step (J9 h) (a4p r.cs h)
theorem C4 {L : List Nat} {iter : Expr} {body : List Stmt} {src : SI} {b : BT1} {g : SS} (hi : IV A0 G tg iter src) (hg : GV G tg L b) (hb : SVs G body g) (hcm : G.hot = none := by rfl) (hs : ∀ (env : PySem.Env) x, foldedSetIterable iter env x = pure x := by intro _ _; rfl) :
  SV G (.For tg iter body [] pos) (a0Y src b g) := by
 obtain ⟨wi, pi, qi⟩ := hi
 obtain ⟨gg, pg, qg⟩ := hg
 obtain ⟨tb, pb, qb⟩ := hb
 refine ⟨fun W => tFor (wi W) gg (tb W), fun X W k => ps_for k.po (k.calm hcm) (pi X W k) (pg X W k) (pb X W k) (hs _), fun W σ H ρ S o c D nt rs ps => ?_⟩
 refine qi W σ H ρ S o c _ nt rs ?_
 unfold a0Y at ps
 cases e : src ρ S with
 | bad => rw [e] at ps; exact ps.elim
 | exc e' S' =>
  rw [e] at ps
  exact fun cls d o' c' H' s rs' nt' x => ps cls d σ o' c' H' s.weak nt' rs' x
 | ok ds S1 =>
  rw [e] at ps
  intro J o1 c1 H1 s1 nt1 rs1 it
  have ps1 : PostS G W o1 c1 H1 (a7J b g ds ρ S1) D := PostS.step s1.weak ps
  refine ⟨fun i m σ H => m = ds.length - i ∧ i ≤ ds.length ∧ ∃ ρ S o c, Step A0 o1 c1 H1 o c H ∧ NT o ∧ RS G.K o c ρ S σ H ∧ PostS G W o c H (a7J b g (ds.drop i) ρ S) D,
   ⟨ds.length, by simp, Nat.zero_le _, ρ, S1, o1, c1, Step.refl, nt1, rs1, by rw [List.drop_zero]; exact ps1⟩, ?_⟩
  rintro i m σ2 H2 ⟨rfl, hi, ρ2, S2, o2, c2, s2, nt2, rs2, p2⟩
  obtain ⟨stop, go⟩ := it.2 o2 c2 H2 s2 rs2.cs.trk i
  by_cases hlt : i < ds.length
  ·obtain ⟨gg1, gg2⟩ := go ds[i] (List.getElem?_eq_getElem hlt)
   rw [List.drop_eq_getElem_cons hlt] at p2
   refine .inr ⟨gg1, fun σ' H' => ∃ ρ S o c, Step A0 o1 c1 H1 o c H' ∧ NT o ∧ RS G.K o c ρ S σ' H' ∧ PostS G W o c H' (a7J b g (ds.drop (i + 1)) ρ S) D, fun σ' H' q => ⟨ds.length - (i + 1), by omega, rfl, hlt, q⟩, fun x H3 y => ?_⟩
   obtain ⟨gr, rx⟩ := gg2 x H3 y
   have rs3 := b3I rs2 gr
   have s3 : Step A0 o2 c2 H2 o2 c2 H3 := J9 gr
   have p3 := PostS.step s3 p2
   unfold a7J at p3
   cases eb : b ds[i] ρ2 with
   | none => rw [eb] at p3; exact p3.elim
   | some ρ4 =>
    rw [eb] at p3
    refine qg σ2 H3 ρ2 ρ4 S2 o2 c2 x ds[i] _ nt2 rs3 rx eb fun σ4 rs4 _ _ => ?_
    have p4 := p3
    have sa : Step A0 o1 c1 H1 o2 c2 H3 := s2.trans s3
    refine qb W σ4 H3 ρ4 S2 o2 c2 _ nt2 rs4 ?_
    cases ef : g ρ4 S2 with
    | nx ρ5 S5 =>
     simp only [ef] at p4
     exact fun σ' o' c' H' s nt' rs' => ⟨ρ5, S5, o', c', sa.trans s, nt', rs', PostS.step s p4⟩
    | ct ρ5 S5 =>
     simp only [ef] at p4
     exact fun σ' o' c' H' s nt' rs' => ⟨ρ5, S5, o', c', sa.trans s, nt', rs', PostS.step s p4⟩
    | bk ρ5 S5 =>
     simp only [ef] at p4
     exact p4
    | rt t5 S5 =>
     simp only [ef] at p4
     exact p4
    | ex e5 ρ5 S5 =>
     simp only [ef] at p4
     exact p4
    | bad => simp only [ef] at p4; exact p4
  ·have ei : i = ds.length := by omega
   subst ei
   rw [List.drop_length] at p2
   exact .inl ⟨stop (Nat.le_refl _), p2 σ2 o2 c2 H2 Step.refl nt2 rs2⟩

def q8 (ρ : En) : List Nat → En
 | [] => ρ
 | v :: vs => (q8 ρ vs).set v none
def lcM (b : BT1) (tt : SB) (elt : SE) (ρ : En) : List D → Sto → R (List D)
 | [], S => .ok [] S
 | d :: ds, S => match b d ρ with
  | none => .bad
  | some ρ1 => match tt ρ1 S with
   | .ok true S1 => (match elt ρ1 S1 with
    | .ok t S2 => (match asD t with
     | some x => R.l (lcM b tt elt ρ ds S2) fun xs S3 => .ok (x :: xs) S3
     | none => .bad)
    | _ => .bad)
   | .ok false S1 => lcM b tt elt ρ ds S1
   | _ => .bad
def cLc (src : SI) (b : BT1) (tt : SB) (elt : SE) (vs : List Nat) : SE := fun ρ S => R.l (src ρ S) fun ds S1 => R.l (lcM b tt elt (q8 ρ vs) ds S1) fun xs S2 => .ok (.own xs) S2
def TVs (G : Cc) (ifs : List Expr) (f : SB) : Prop := ∃ t : WX → TT, (∀ X W, G.Ok X W → PTs X ifs (t W)) ∧ ∀ W, TR G W (t W) f
def a0w : SB := fun _ S => .ok true S
theorem K7 : TVs G [] a0w := ⟨fun _ => tYes, fun _ _ _ => pts_nil, fun W σ H ρ S o c Q nt rs p => p o c H Step.refl nt rs⟩
theorem a5U {f : SB} (h : TV G e f) : TVs G [e] f := by
 obtain ⟨t, p, q⟩ := h
 exact ⟨t, fun X W k => pts_one (p X W k), q⟩
theorem b2P {cn : Bool} {X : Cx} : Tk cn X (fun _ _ _ _ => False) := Tk.no
theorem Cc.Ok.blk {X : Cx} (k : G.Ok X W) (hcm : G.hot = none) (scope : Scope) (s : Shared) (H : Hp) (C : Addr) (cl : List (Str × Addr)) (fp : List Addr) : (G.blk scope).Ok (X.blk s H scope (compEnvC scope cl C X.env) fp) (fun _ _ _ _ => False) :=
 ⟨k.P, k.w, k.K, k.mg, k.base, k.N, by show relS scope X.env.scope = relS scope G.sc; rw [k.sc], rfl, k.calm, k.room, b2P, PassesOwn.never, k.hd, fun h => (nomatch h), fun h e => (by rw [show (G.blk scope).hot = G.hot from rfl, hcm] at e; cases e), fun h => (nomatch h), fun _ _ h => (nomatch h)⟩
theorem RS.wipe {K : PySem.W.Frag} {o : Gh} {c : Cs} {ρ : En} {S : Sto} {σ : L2.St} {H : Hp} (rs : RS K o c ρ S σ H) : ∀ vs : List Nat, RS K o c (q8 ρ vs) S (L2.wipe σ vs) H
 | [] => rs
 | v :: vs => by
  have ih := RS.wipe rs vs
  refine ⟨?_, fun j t' e => ?_, rs.cs⟩
  ·show ((q8 ρ vs).set v none).length = ((L2.wipe σ vs).set v none).length
   rw [List.length_set, List.length_set]
   exact ih.len
  ·have e' : ((q8 ρ vs).set v none)[j]? = some (some t') := e
   show ∃ v', ((L2.wipe σ vs).set v none)[j]? = some (some v') ∧ _
   by_cases q : j = v
   ·subst q
    by_cases hl : j < (q8 ρ vs).length
    ·rw [List.getElem?_set_self hl] at e'; cases e'
    ·rw [List.getElem?_eq_none (by rw [List.length_set]; omega)] at e'; cases e'
   ·rw [List.getElem?_set_ne (Ne.symm q)] at e' ⊢
    exact ih.slot j t' e'
theorem a7g {σ : L2.St} : ∀ {vs : List Nat} {j : Nat}, j ∉ vs → (L2.wipe σ vs)[j]? = σ[j]?
 | [], _, _ => rfl
 | v :: vs, j, h => by
  simp only [List.mem_cons, not_or] at h
  show ((L2.wipe σ vs).set v none)[j]? = σ[j]?
  rw [List.getElem?_set_ne (Ne.symm h.1)]
  exact a7g h.2
theorem a5m {σ : L2.St} : ∀ {vs : List Nat} {j : Nat}, j ∈ vs → j < σ.length → (L2.wipe σ vs)[j]? = some none
 | v :: vs, j, h, hl => by
  show ((L2.wipe σ vs).set v none)[j]? = some none
  by_cases q : v = j
  ·subst q
   rw [List.getElem?_set_self (by rw [wipe_length]; exact hl)]
  ·rw [List.getElem?_set_ne q]
   rcases List.mem_cons.mp h with h | h
   ·exact absurd h.symm q
   ·exact a5m h hl
theorem a9R {σ σ' : L2.St} {vs L : List Nat} (hL : ∀ j ∈ L, j ∈ vs) (hl : σ'.length = (L2.wipe σ vs).length) (h : ∀ (j : Nat), j ∉ L → σ'[j]? = (L2.wipe σ vs)[j]?) : L2.wipe σ' vs = L2.wipe σ vs := by
 apply List.ext_getElem?
 intro j
 rw [wipe_length] at hl
 by_cases hj : j ∈ vs
 ·by_cases hb : j < σ.length
  ·rw [a5m hj (by rw [hl]; exact hb), a5m hj hb]
  ·rw [List.getElem?_eq_none (by rw [wipe_length]; omega), List.getElem?_eq_none (by rw [wipe_length]; omega)]
 ·rw [a7g hj, h j fun z => hj (hL j z)]
theorem m3 {o : Gh} {H : Hp} {D : Addr} {u : HO} (h : o D ≠ none) : Kept o H o (upd H D u) := fun a x e n => ⟨by rw [upd_ne (fun z => h (by rw [← z]; exact n))]; exact e, n⟩
theorem b2r {K : PySem.W.Frag} {o : Gh} {c : Cs} {S : Sto} {H : Hp} {D : Addr} {u : HO} (q : CS K o c S H) (h : o D = some .prot) (ou : C0 u) : CS K o c S (upd H D u) :=
 q.move (m3 (by rw [h]; simp)) (fun a n e => ⟨e, fun x hx => by rw [upd_ne (fun z => by rw [z, h] at e; cases e)]; exact hx⟩) fun a n => by
  by_cases z : a = D
  ·subst z; exact ⟨u, upd_same, ou⟩
  ·obtain ⟨x, e, q⟩ := q.trk a n
   exact ⟨x, by rw [upd_ne z]; exact e, q⟩
def I9 (o : Gh) (D : Addr) : Gh := mkO o D .tmp
theorem b7E {L vs : List Nat} {src : SI} {b : BT1} {tt : SB} {elt : SE} {wi : TI} {g : TG} {tT : TT} {tE : TE} {scope : Scope} (hi : IR c9 G W wi src) (hg : GR G.K L g b) (hL : ∀ j ∈ L, j ∈ vs)
  (ht : TR (G.blk scope) (fun _ _ _ _ => False) tT tt) (he : ER (G.blk scope) (fun _ _ _ _ => False) tE elt) : ER G W (tLc wi g tT tE vs) (cLc src b tt elt vs) := by
 intro σ H ρ S o c Q nt rs ps
 refine hi σ H ρ S o c _ nt rs ?_
 unfold cLc at ps
 cases e : src ρ S with
 | bad => rw [e] at ps; exact ps.elim
 | exc e' S' => rw [e] at ps; exact ps
 | ok ds S1 =>
  rw [e] at ps
  intro J o1 c1 H1 s1 nt1 rs1 it D hD
  have ps1 : PostE G W o1 c1 ρ σ H1 (R.l (lcM b tt elt (q8 ρ vs) ds S1) fun xs S2 => .ok (.own xs) S2) Q := PostE.step s1 ps
  refine ⟨fun i m H => m = ds.length - i ∧ i ≤ ds.length ∧ ∃ S o c acc ys, Step c9 o1 c1 H1 o c H ∧ NT o ∧ o D = some .prot ∧ CS G.K o c S H ∧ H D = some (.lst acc) ∧ RepAll G.K o H acc ys ∧ acc.length ≤ i ∧
   PostE G W o1 c1 ρ σ H1 (R.l (lcM b tt elt (q8 ρ vs) (ds.drop i) S) fun xs S2 => .ok (.own (ys ++ xs)) S2) Q,
   ⟨ds.length, by simp, Nat.zero_le _, S1, mkO o1 D .prot, c1, [], [], Step.laidO rs1.cs.trk hD, ?_, p9, rs1.cs.laidO hD trivial, upd_same, .nil, Nat.le_refl _, by rw [List.drop_zero]; exact ps1⟩, ?_⟩
  ·intro a z
   by_cases q : a = D
   ·subst q; rw [p9] at z; cases z
   ·rw [w6 q] at z; exact nt1 a z
  rintro i m H2 ⟨rfl, hi2, S2, o2, c2, acc, ys, s2, nt2, hp2, cs2, hD2, ra2, la2, p2⟩
  obtain ⟨stop, go⟩ := it.2 o2 c2 H2 s2 cs2.trk i
  by_cases hlt : i < ds.length
  ·obtain ⟨gg1, gg2⟩ := go ds[i] (List.getElem?_eq_getElem hlt)
   rw [List.drop_eq_getElem_cons hlt] at p2
   refine .inr ⟨gg1, fun H => ∃ S o c acc ys, Step c9 o1 c1 H1 o c H ∧ NT o ∧ o D = some .prot ∧ CS G.K o c S H ∧ H D = some (.lst acc) ∧ RepAll G.K o H acc ys ∧ acc.length ≤ i + 1 ∧
    PostE G W o1 c1 ρ σ H1 (R.l (lcM b tt elt (q8 ρ vs) (ds.drop (i + 1)) S) fun xs S2 => .ok (.own (ys ++ xs)) S2) Q, fun H' q => ⟨ds.length - (i + 1), by omega, rfl, hlt, q⟩, fun x H3 y => ?_⟩
   obtain ⟨gr, rx⟩ := gg2 x H3 y
   have cs3 := a4p cs2 gr
   have s3 : Step c9 o2 c2 H2 o2 c2 H3 := J9 gr
   -- the block's names
   have rsw : RS G.K o2 c2 (q8 ρ vs) S2 (L2.wipe σ vs) H3 := ((rs1.step (s2.trans s3) cs3)).wipe vs
   unfold lcM at p2
   cases eb : b ds[i] (q8 ρ vs) with
   | none => rw [eb] at p2; exact p2.elim
   | some ρ4 =>
    rw [eb] at p2
    refine hg (L2.wipe σ vs) H3 (q8 ρ vs) ρ4 S2 o2 c2 x ds[i] _ nt2 rsw rx eb fun σ4 rs4 f4 l4 => ?_
    refine ⟨a9R hL l4 f4, ?_⟩
    refine ht σ4 H3 ρ4 S2 o2 c2 _ nt2 rs4 ?_
    have hD3 : H3 D = some (.lst acc) := gr _ _ hD2
    have np : ∀ w, o2 D = some w → ¬ c9 w := fun w hw => by rw [hp2] at hw; cases hw; exact fun z => z
    cases et : tt ρ4 S2 with
    | bad => simp only [et] at p2; exact p2.elim
    | exc e' S' => simp only [et] at p2; exact p2.elim
    | ok bb S3 =>
     simp only [et] at p2
     intro o5 c5 H5 s5 nt5 rs5
     have hp5 : o5 D = some .prot := s5.own D _ hp2 (fun z => z)
     have hD5 : H5 D = some (.lst acc) := s5.keep D _ hD3 np
     have sa : Step c9 o1 c1 H1 o5 c5 H5 := (s2.trans s3).trans s5
     have ra5 : RepAll G.K o5 H5 acc ys := (ra2.step cs2.trk s3).step cs3.trk s5
     cases bb with
     | false =>
      rw [if_neg Bool.false_ne_true]
      exact ⟨S3, o5, c5, acc, ys, sa, nt5, hp5, rs5.cs, hD5, ra5, Nat.le_succ_of_le la2, p2⟩
     | true =>
      rw [if_pos rfl]
      refine he σ4 H5 ρ4 S3 o5 c5 _ nt5 rs5 ?_
      cases ee : elt ρ4 S3 with
      | bad => simp only [ee] at p2; exact p2.elim
      | exc e' S' => simp only [ee] at p2; exact p2.elim
      | ok t S4 =>
       simp only [ee] at p2
       intro v o6 c6 H6 s6 rs6 r6
       cases ea : asD t with
       | none => simp only [ea] at p2; exact p2.elim
       | some xd =>
        simp only [ea] at p2
        have np5 : ∀ w, o5 D = some w → ¬ c9 w := fun w hw => by rw [hp5] at hw; cases hw; exact fun z => z
        have s7 := s6.untmp nt5
        have hp7 : unT o6 D = some .prot := s7.own D _ hp5 (fun z => z)
        have hD7 : H6 D = some (.lst acc) := s7.keep D _ hD5 np5
        have cs7 := rs6.untmp.cs
        have ra7 := ra5.step rs5.cs.trk s7
        have rx7 : Rep G.K (unT o6) H6 v xd := r6.toD rs6.cs.trk ea
        have hlen : acc.length < sizeLine := Nat.lt_of_le_of_lt la2 (Nat.lt_of_lt_of_le hlt it.1)
        have kw : Kept (unT o6) H6 (unT o6) (upd H6 D (.lst (acc ++ [v]))) := m3 (by rw [hp7]; simp)
        refine ⟨acc, hD7, hlen, S4, unT o6, c6, acc ++ [v], ys ++ [xd], ⟨fun a u e n => ?_, (sa.trans s7).own, (sa.trans s7).new, (sa.trans s7).pre⟩, B7, hp7, b2r cs7 hp7 trivial, upd_same, ?_, ?_, ?_⟩
        ·rw [upd_ne (ne_of_none e hD)]
         exact (sa.trans s7).keep a u e n
        ·exact (ra7.kept cs7.trk kw).append (.cons _ _ _ _ (rx7.kept cs7.trk kw) .nil)
        ·rw [List.length_append]
         exact Nat.succ_le_succ la2
        ·cases el : lcM b tt elt (q8 ρ vs) (ds.drop (i + 1)) S4 with
         | bad => rw [el] at p2; exact p2
         | exc e' S' => rw [el] at p2; exact p2
         | ok xs S5 =>
          rw [el] at p2
          have p8 : PostE G W o1 c1 ρ σ H1 (.ok (.own (ys ++ (xd :: xs))) S5) Q := p2
          show PostE G W o1 c1 ρ σ H1 (.ok (.own ((ys ++ [xd]) ++ xs)) S5) Q
          rw [List.append_assoc]
          exact p8
  ·have ei : i = ds.length := by omega
   subst ei
   rw [List.drop_length] at p2
   refine .inl ⟨stop (Nat.le_refl _), ?_⟩
   have p3 : PostE G W o1 c1 ρ σ H1 (.ok (.own ys) S2) Q := by
    have : PostE G W o1 c1 ρ σ H1 (.ok (.own (ys ++ [])) S2) Q := p2
    rw [List.append_nil] at this
    exact this
   have n1 : o1 D = none := rs1.cs.trk.new hD
   have st : Step c9 o1 c1 H1 (I9 o2 D) c2 H2 := ⟨s2.keep, fun a w e n => by
     have : a ≠ D := fun z => by rw [z, n1] at e; cases e
     unfold I9
     rw [w6 this]
     exact s2.own a w e n, fun a e n => by
     by_cases z : a = D
     ·rw [z]; exact hD
     ·unfold I9 at n
      rw [w6 z] at n
      exact s2.new a e n, s2.pre⟩
   have sup : ∀ a, o2 a = none → I9 o2 D a = none := fun a e => by
    have : a ≠ D := fun z => by rw [z, hp2] at e; cases e
    unfold I9
    rw [w6 this]
    exact e
   have cst : CS G.K (I9 o2 D) c2 S2 H2 := cs2.turn sup (fun a n e => by
    have : a ≠ D := fun z => by rw [z, hp2] at e; cases e
    unfold I9
    rw [w6 this]
    exact e) fun a n e => n (sup a e)
   exact p3 (.ref D) (I9 o2 D) c2 H2 st (rs1.step st cst) ⟨D, acc, rfl, p9, hD2, Nat.le_trans la2 it.1, ra2.kept cs2.trk (Kept.same sup)⟩
theorem a4w {L : List Nat} {iter elt : Expr} {ifs : List Expr} {scope : Scope} {own : List (Str × Nat)} {src : SI} {b : BT1} {tt : SB} {fe : SE} (hi : IV c9 G tg iter src) (hg : GV (G.blk scope) tg L b) (ht : TVs (G.blk scope) ifs tt) (he : EV (G.blk scope) elt fe)
  (hcm : G.hot = none := by rfl) (hb : blkC G.N G.sc scope own = true := by (try dsimp only [Cc.blk]); decide +kernel) (hL : ∀ j ∈ L, j ∈ own.map (·.2) := by decide) (nd : G.N.Nodup := by (try dsimp only [Cc.blk]); decide +kernel) (hs : ∀ (env : PySem.Env) x, foldedSetIterable iter env x = pure x := by intro _ _; rfl) :
  EV G (.ListComp elt [⟨tg, iter, ifs, 0⟩] scope pos) (cLc src b tt fe (own.map (·.2))) := by
 obtain ⟨wi, pi, qi⟩ := hi
 obtain ⟨gg, pg, qg⟩ := hg
 obtain ⟨tT, pt, qt⟩ := ht
 obtain ⟨tE, pe, qe⟩ := he
 refine ⟨fun W => tLc (wi W) gg (tT fun _ _ _ _ => False) (tE fun _ _ _ _ => False) (own.map (·.2)), fun X W k => ?_, fun W => b7E (qi W) qg hL (qt _) (qe _)⟩
 exact pe_lc (k.calm hcm) (k.nd nd) (pi X W k) (blkOk_by (by rw [k.N, k.sc]; exact hb)) (fun s H C cl fp => pg _ _ (k.blk hcm scope s H C cl fp)) (fun s H C cl fp => pt _ _ (k.blk hcm scope s H C cl fp)) (fun s H C cl fp => pe _ _ (k.blk hcm scope s H C cl fp)) (hs _)
theorem a16 (i : Nat) {x : Str} {py : Pos} {spos : Pos} {L : List Nat} {iter elt : Expr} {ifs : List Expr} {scope : Scope} {own : List (Str × Nat)} {src : SI} {b : BT1} {tt : SB} {fe : SE} (hi : IV c9 G tg iter src) (hg : GV (G.blk scope) tg L b) (ht : TVs (G.blk scope) ifs tt) (he : EV (G.blk scope) elt fe)
  (hN : G.N[i]? = some x := by rfl) (hx : G.sc.names.lookup x = some .local := by rfl) (hk : G.sc.kind = .function := by rfl) (hl : (py.line == pos.line) = true := by rfl)
  (ha : (scope.names.any fun (n, k) => n == x && (k == .local || k == .cell)) = false := by decide +kernel)
  (hcm : G.hot = none := by rfl) (hb : blkC G.N G.sc scope own = true := by (try dsimp only [Cc.blk]); decide +kernel) (hL : ∀ j ∈ L, j ∈ own.map (·.2) := by decide) (nd : G.N.Nodup := by (try dsimp only [Cc.blk]); decide +kernel) (hs : ∀ (env : PySem.Env) x, foldedSetIterable iter env x = pure x := by intro _ _; rfl) :
  SV G (.Assign [.Name x py] (.ListComp elt [⟨tg, iter, ifs, 0⟩] scope pos) spos) (s8 i (cLc src b tt fe (own.map (·.2)))) := by
 obtain ⟨wi, pi, qi⟩ := hi
 obtain ⟨gg, pg, qg⟩ := hg
 obtain ⟨tT, pt, qt⟩ := ht
 obtain ⟨tE, pe, qe⟩ := he
 refine ⟨fun W => tAsg (tLc (wi W) gg (tT fun _ _ _ _ => False) (tE fun _ _ _ _ => False) (own.map (·.2))) (gName i), fun X W k => ?_, fun W σ H ρ S o c D nt rs ps => ?_⟩
 ·exact ps_setLc (k.calm hcm) (k.nd nd) (k.at hN) (by rw [k.sc]; exact hx) (sw_true (by rw [k.sc]; exact hk) (by rw [k.sc]; exact hx) hl ha) (pi X W k) (blkOk_by (by rw [k.N, k.sc]; exact hb)) (fun s H C cl fp => pg _ _ (k.blk hcm scope s H C cl fp)) (fun s H C cl fp => pt _ _ (k.blk hcm scope s H C cl fp)) (fun s H C cl fp => pe _ _ (k.blk hcm scope s H C cl fp)) (hs _)
 ·exact (b7E (qi W) qg hL (qt _) (qe _)).s nt rs ps fun t S1 v o1 c1 H1 s1 rs1 r1 p1 => p1 _ (reT i o1) c1 H1 Step.refl.re b29 (rs1.put r1)
end
end BV
namespace BV
open PySem L2

def j8 (lo : Int) (n : Nat) : List D := (List.range n).map fun (k : Nat) => .int (lo + (k : Int))
def Q4 : List D → Option (List D)
 | [.int j] => if j.toNat ≤ sizeLine ∧ w3 j = true then some (j8 0 j.toNat) else none
 | _ => none
def a0l : List D → Option (List D)
 | [.int i, .int j] => if (j - i).toNat ≤ sizeLine ∧ w3 i = true ∧ w3 j = true then some (j8 i (j - i).toNat) else none
 | _ => none
def b0v : List D → Option (List D)
 | [.int i, .int j, .int c] => if c = -1 ∧ (i - j).toNat ≤ sizeLine ∧ w3 i = true ∧ w3 j = true then some ((List.range (i - j).toNat).map fun (k : Nat) => .int (i - (k : Int))) else none
 | _ => none
def a18 (g : List D → Option (List D)) (fs : SU) : SI := fun ρ S => R.l (fs ρ S) fun ds S1 => match g ds with | some xs => .ok xs S1 | none => .bad
theorem c1V {j : Int} (h : j.toNat ≤ sizeLine) : j < 2 ^ 62 := by
 rw [sizeLine_eq] at h
 omega
theorem a6c {vol : Ow → Prop} {K : PySem.W.Frag} {o : Gh} {c : Cs} {H : Hp} {lo : Int} {n : Nat} (hn : n ≤ sizeLine) : b3z vol K (Itr lo n) o c H (j8 lo n) := by
 have hl : (j8 lo n).length = n := by unfold j8; rw [List.length_map, List.length_range]
 refine ⟨by rw [hl]; exact hn, fun o1 c1 H1 s tr i => ⟨fun h => by rw [hl] at h; exact h, fun d e => ?_⟩⟩
 have hi : i < n := by
  have := (List.getElem?_eq_some_iff.mp e).1
  rw [hl] at this
  exact this
 have ed : d = .int (lo + (i : Int)) := by
  unfold j8 at e
  rw [List.getElem?_map, List.getElem?_range hi] at e
  simpa using e.symm
 subst ed
 refine ⟨hi, fun x H2 y => ?_⟩
 obtain ⟨e1, e2⟩ := y
 subst e1 e2
 exact ⟨fun _ _ q => q, .int _⟩
theorem b03 {vol : Ow → Prop} {K : PySem.W.Frag} {o : Gh} {c : Cs} {H : Hp} {lo : Int} {n : Nat} (hn : n ≤ sizeLine) : b3z vol K (Itc lo (-1) n) o c H ((List.range n).map fun (k : Nat) => .int (lo - (k : Int))) := by
 have hl : ((List.range n).map fun (k : Nat) => (PyData.int (lo - (k : Int)))).length = n := by rw [List.length_map, List.length_range]
 refine ⟨by rw [hl]; exact hn, fun o1 c1 H1 s tr i => ⟨fun h => by rw [hl] at h; exact h, fun d e => ?_⟩⟩
 have hi : i < n := by
  have := (List.getElem?_eq_some_iff.mp e).1
  rw [hl] at this
  exact this
 have ed : d = .int (lo - (i : Int)) := by
  rw [List.getElem?_map, List.getElem?_range hi] at e
  simpa using e.symm
 subst ed
 refine ⟨hi, fun x H2 y => ?_⟩
 obtain ⟨e1, e2⟩ := y
 subst e1
 refine ⟨fun _ _ q => q, ?_⟩
 rw [e2, show lo + (i : Int) * (-1) = lo - (i : Int) by omega]
 exact .int _
section
variable {G : Cc} {W : WX} {o o1 : Gh} {c c1 : Cs} {ρ : En} {σ : L2.St} {H H1 : Hp} {pos p : Pos} {a b e tg e1 e2 e3 : Expr} {f f1 f2 f3 : SE} {vol : Ow → Prop} {fs : SU} {Dn : Ends}
theorem UAR.i {t : TA} {k : List BV.D → Option (List BV.D)} {S : Sto} {Q : It → Hp → Prop} {QQ : List V → Hp → Prop} (h : UAR G W t fs) (nt : NT o) (rs : RS G.K o c ρ S σ H) (ps : b4u vol G W o c ρ σ H (R.l (fs ρ S) fun ds S1 => match k ds with | some xs => .ok xs S1 | none => .bad) Q)
  (q : ∀ ds xs S1 vs o1 c1 H1, Step c9 o c H o1 c1 H1 → NT o1 → RS G.K o1 c1 ρ S1 σ H1 → RepUs G.K o1 H1 vs ds → k ds = some xs → b4u vol G W o1 c1 ρ σ H1 (.ok xs S1) Q → QQ vs H1) : t σ H QQ := by
 refine h σ H ρ S o c QQ nt rs ?_
 cases e : fs ρ S with
 | bad => rw [e] at ps; exact ps.elim
 | exc e' S' => rw [e] at ps; exact ps
 | ok ds S1 =>
  rw [e] at ps
  intro vs o1 c1 H1 s1 nt1 rs1 r1
  cases ek : k ds with
  | none => simp only [R.l_ok, ek] at ps; exact ps.elim
  | some xs =>
   simp only [R.l_ok, ek] at ps
   exact q ds xs S1 vs o1 c1 H1 s1 nt1 rs1 r1 ek fun J o' c' H' s => ps J o' c' H' (s1.trans s)
theorem B6 (ha : UAV G [e1] fs) (hm : G.mg "range" = none) (hg : G.sc.names.lookup ("range" : Str) = some .globalImplicit := by rfl) (hs : ∀ env : PySem.Env, starEach [e1] env = [(false, eval e1 env)] := by intro _; rfl) : IV vol G tg (.Call (.Name "range" p) [e1] [] pos) (a18 Q4 fs) := by
 obtain ⟨t, pp, q⟩ := ha
 refine ⟨fun W => iRng1 (t W), fun X W k => pi_range1 (k.gl hg) (k.m hm) (pp X W k) (hs _), fun W σ H ρ S o c Q nt rs ps => ?_⟩
 refine (q W).i nt rs ps fun ds xs S1 vs o1 c1 H1 s1 nt1 rs1 r1 ek p1 => ?_
 unfold Q4 at ek
 split at ek
 ·split at ek
  ·cases ek
   rename_i hh
   obtain ⟨v, rfl, r⟩ := r1.one
   rw [r.intV]
   exact ⟨_, rfl, K1 hh.2, c1V hh.1, p1 _ o1 c1 H1 Step.refl nt1 rs1 (a6c hh.1)⟩
  ·cases ek
 ·cases ek
theorem P6 (ha : UAV G [e1, e2] fs) (hm : G.mg "range" = none) (hg : G.sc.names.lookup ("range" : Str) = some .globalImplicit := by rfl) (hs : ∀ env : PySem.Env, starEach [e1, e2] env = [(false, eval e1 env), (false, eval e2 env)] := by intro _; rfl)
  (hs2 : ∀ env : PySem.Env, starEach [e2] env = [(false, eval e2 env)] := by intro _; rfl) : IV vol G tg (.Call (.Name "range" p) [e1, e2] [] pos) (a18 a0l fs) := by
 obtain ⟨t, pp, q⟩ := ha
 refine ⟨fun W => iRng2 (t W), fun X W k => pi_range2 (k.gl hg) (k.m hm) (pp X W k) (hs _) (hs2 _), fun W σ H ρ S o c Q nt rs ps => ?_⟩
 refine (q W).i nt rs ps fun ds xs S1 vs o1 c1 H1 s1 nt1 rs1 r1 ek p1 => ?_
 unfold a0l at ek
 split at ek
 ·split at ek
  ·cases ek
   rename_i hh
   obtain ⟨v, w, rfl, r, r'⟩ := r1.two
   rw [r.intV, r'.intV]
   exact ⟨_, _, rfl, ⟨K1 hh.2.1, Q2 hh.2.1, K1 hh.2.2, Q2 hh.2.2⟩, p1 _ o1 c1 H1 Step.refl nt1 rs1 (a6c hh.1)⟩
  ·cases ek
 ·cases ek
theorem RepUs.three {K : PySem.W.Frag} {o : Gh} {H : Hp} {vs : List V} {d e f : BV.D} (r : RepUs K o H vs [d, e, f]) : ∃ v w u, vs = [v, w, u] ∧ RepU K o H v d ∧ RepU K o H w e ∧ RepU K o H u f := by
 obtain ⟨v, ws, e1, r1, r2⟩ := r.consV
 obtain ⟨w, u, e2, r3, r4⟩ := r2.two
 exact ⟨v, w, u, by rw [e1, e2], r1, r3, r4⟩
theorem b0K (ha : UAV G [e1, e2, e3] fs) (hm : G.mg "range" = none) (hg : G.sc.names.lookup ("range" : Str) = some .globalImplicit := by rfl) (hs : ∀ env : PySem.Env, starEach [e1, e2, e3] env = (false, eval e1 env) :: starEach [e2, e3] env := by intro _; rfl)
  (hpl : ∀ env : PySem.Env, (backTo pos (starEach [e2, e3] env)).any (·.1) = false := by intro _; rfl) : IV vol G tg (.Call (.Name "range" p) [e1, e2, e3] [] pos) (a18 b0v fs) := by
 obtain ⟨t, pp, q⟩ := ha
 refine ⟨fun W => iRng3 (t W), fun X W k => pi_range3 (k.gl hg) (k.m hm) (pp X W k) (hs _) (hpl _), fun W σ H ρ S o c Q nt rs ps => ?_⟩
 refine (q W).i nt rs ps fun ds xs S1 vs o1 c1 H1 s1 nt1 rs1 r1 ek p1 => ?_
 unfold b0v at ek
 split at ek
 ·split at ek
  ·cases ek
   rename_i hh
   obtain ⟨hc, hh⟩ := hh
   subst hc
   obtain ⟨v, w, u, rfl, r, r', r''⟩ := r1.three
   rw [r.intV, r'.intV, r''.intV]
   exact ⟨_, _, -1, _, rfl, RgC.neg (K1 hh.2.1) (Q2 hh.2.1) (K1 hh.2.2) (Q2 hh.2.2), p1 _ o1 c1 H1 Step.refl nt1 rs1 (b03 hh.1)⟩
  ·cases ek
 ·cases ek

theorem b11 {K : PySem.W.Frag} {o : Gh} {c : Cs} {S : Sto} {H : Hp} {a : Addr} {u : HO} {i : Nat} (q : CS K o c S H) (h : o a = some (.slot i)) (ou : C0 u) : CS K o c S (upd H a u) :=
 q.move (m3 (by rw [h]; simp)) (fun b n e => ⟨e, fun x hx => by rw [upd_ne (fun z => by rw [z, h] at e; cases e)]; exact hx⟩) fun b n => by
  by_cases z : b = a
  ·subst z; exact ⟨u, upd_same, ou⟩
  ·obtain ⟨x, e, q⟩ := q.trk b n
   exact ⟨x, by rw [upd_ne z]; exact e, q⟩
theorem U7 {o : Gh} {c : Cs} {H : Hp} {a : Addr} {u : HO} {i : Nat} (h : o a = some (.slot i)) : Step A0 o c H o c (upd H a u) :=
 ⟨fun b x e n => by rw [upd_ne (fun z => n (.slot i) (by rw [z]; exact h) trivial)]; exact e, fun _ _ e _ => e, fun _ e n => absurd e n, List.prefix_refl c⟩
theorem RepT.write {K : PySem.W.Frag} {u : HO} {a : Addr} {i : Nat} {w : Ow} {v : V} {t : T} (tr : Trk o H) (h : o a = some (.slot i)) (hw : w ≠ .slot i) (r : RepT K o c H w v t) : RepT K o c (upd H a u) w v t := by
 have k : Kept o H o (upd H a u) := m3 (by rw [h]; simp)
 have ne : ∀ b, o b = some w → b ≠ a := fun b e z => by rw [z, h] at e; cases e; exact hw rfl
 cases t with
 | val d => exact Rep.kept tr k r
 | own xs =>
  obtain ⟨x, vs, e, q, h', z, ra⟩ := r
  exact ⟨x, vs, e, q, by rw [upd_ne (ne _ q)]; exact h', z, ra.kept tr k⟩
 | own2 xss =>
  obtain ⟨x, as, e, q, h', nd, z, le, f⟩ := r
  refine ⟨x, as, e, q, by rw [upd_ne (ne _ q)]; exact h', nd, z, le, fun i b xs e1 e2 => ?_⟩
  obtain ⟨q', vs, h'', z', ra⟩ := f i b xs e1 e2
  exact ⟨q', vs, by rw [upd_ne (ne _ q')]; exact h'', z', ra.kept tr k⟩
 | ownd tk kvs =>
  obtain ⟨x, ks, vs, ds, e, q, h', z, z2, ra, e'⟩ := r
  exact ⟨x, ks, vs, ds, e, q, h'.kept (fun u hu => by rw [upd_ne (ne _ q)]; exact hu) (fun b us zz => SqT.kept tr k zz), z, z2, ra.kept tr k, e'⟩
 | cel n => exact r
 | scr ns =>
  obtain ⟨x, e, z, h'⟩ := r
  refine ⟨x, e, z, ?_⟩
  rcases h' with ⟨ob, h'⟩ | ⟨h', n⟩ | h'
  ·exact .inl ⟨ob, by rw [upd_ne (fun z => by rw [z] at h'; have := tr.free h' (fun z => z); rw [h] at this; cases this)]; exact h'⟩
  ·exact .inr (.inl ⟨by rw [upd_ne (fun z => by rw [z, h] at n; cases n)]; exact h', n⟩)
  ·exact .inr (.inr h')
 | exn _ _ _ _ => exact ⟨r.1, r.2.1, r.2.2.kept tr k⟩
 | tree d =>
  obtain ⟨as, r, nd⟩ := r
  exact ⟨as, r.move (fun x u e q => ⟨by rw [upd_ne (ne _ q)]; exact e, q⟩) (fun b us z => SqT.kept tr k z), nd⟩
 | rof b u =>
  obtain ⟨x, fv, e, q, h1, h2, h3⟩ := r
  have np : ∀ b, o b = some .seen → b ≠ a := fun b e z => by rw [z, h] at e; cases e
  exact ⟨x, fv, e, q, h1.moved fun x hx => by rw [upd_ne (np _ q)]; exact hx, h2, h3.movedH tr k fun b e => ⟨e, fun x hx => by rw [upd_ne (np _ e)]; exact hx⟩⟩
 | recs b ns => exact RcsR.move (fun x u e q => ⟨by rw [upd_ne (ne _ q)]; exact e, q⟩) k (fun _ _ e => e) r
theorem RS.change {K : PySem.W.Frag} {S : Sto} {u : HO} {a : Addr} {i : Nat} {t : T} {v : V} (rs : RS K o c ρ S σ H) (h : o a = some (.slot i)) (ou : C0 u) (hv : σ[i]? = some (some v)) (r : RepT K o c (upd H a u) (.slot i) v t) :
  RS K o c (ρ.set i (some t)) S σ (upd H a u) :=
 ⟨by rw [List.length_set]; exact rs.len, fun j t' e => by
  by_cases q : j = i
  ·subst q
   have hl : j < ρ.length := by rw [rs.len]; exact (List.getElem?_eq_some_iff.mp hv).1
   rw [List.getElem?_set_self hl] at e
   simp only [Option.some.injEq] at e
   subst e
   exact ⟨v, hv, r⟩
  ·rw [List.getElem?_set_ne (Ne.symm q)] at e
   obtain ⟨v', e1, r'⟩ := rs.slot j t' e
   exact ⟨v', e1, r'.write rs.cs.trk h (fun z => q (by cases z; rfl))⟩, b11 rs.cs h ou⟩
theorem RS.ownAt {K : PySem.W.Frag} {S : Sto} {i : Nat} {xs : List BV.D} (rs : RS K o c ρ S σ H) (e : ρ[i]? = some (some (.own xs))) : ∃ a vs, σ[i]? = some (some (.ref a)) ∧ o a = some (.slot i) ∧ H a = some (.lst vs) ∧ vs.length ≤ sizeLine ∧ RepAll K o H vs xs := by
 obtain ⟨v, e1, a, vs, rfl, h1, h2, h3, h4⟩ := rs.slot i _ e
 exact ⟨a, vs, e1, h1, h2, h3, h4⟩
theorem RS.relist {K : PySem.W.Frag} {S : Sto} {a : Addr} {i : Nat} {vs : List V} {xs : List BV.D} (rs : RS K o c ρ S σ H) (h : o a = some (.slot i)) (hv : σ[i]? = some (some (.ref a))) (z : vs.length ≤ sizeLine) (r : RepAll K o H vs xs) :
  RS K o c (ρ.set i (some (.own xs))) S σ (upd H a (.lst vs)) :=
 rs.change h trivial hv ⟨a, vs, rfl, h, upd_same, z, r.kept rs.cs.trk (m3 (by rw [h]; simp))⟩
def sA {α : Type} (f : En → Sto → R α) (k : α → En → Sto → Fl) : SS := fun ρ S => match f ρ S with
 | .ok t S1 => k t ρ S1
 | .exc e S1 => .ex e ρ S1
 | .bad => .bad
theorem AR.s {t : TA} {fa : SA} {k : List T → En → Sto → Fl} {S : Sto} {Q : List V → Hp → Prop} (h : AR G W t fa) (nt : NT o) (rs : RS G.K o c ρ S σ H) (p : PostS G W o c H (sA fa k ρ S) Dn)
  (q : ∀ ts S1 vs o1 c1 H1, Step c9 o c H o1 c1 H1 → NT o1 → RS G.K o1 c1 ρ S1 σ H1 → RepTs G.K o1 c1 H1 vs ts → PostS G W o1 c1 H1 (k ts ρ S1) Dn → Q vs H1) : t σ H Q := by
 refine h σ H ρ S o c Q nt rs ?_
 unfold sA at p
 cases e : fa ρ S with
 | ok t S1 => rw [e] at p; exact fun v o' c' H' s nt' rs' r' => q t S1 v o' c' H' s nt' rs' r' (PostS.step s.weak p)
 | exc e S1 => rw [e] at p; exact fun cls d o' c' H' s rs' nt' x => p cls d σ o' c' H' s.weak nt' rs' x
 | bad => rw [e] at p; exact p
theorem UAR.s {Dn : Ends} {t : TA} {k : List BV.D → En → Sto → Fl} {S : Sto} {Q : List V → Hp → Prop} (h : UAR G W t fs) (nt : NT o) (rs : RS G.K o c ρ S σ H) (p : PostS G W o c H (sA fs k ρ S) Dn)
  (q : ∀ ds S1 vs o1 c1 H1, Step c9 o c H o1 c1 H1 → NT o1 → RS G.K o1 c1 ρ S1 σ H1 → RepUs G.K o1 H1 vs ds → PostS G W o1 c1 H1 (k ds ρ S1) Dn → Q vs H1) : t σ H Q := by
 refine h σ H ρ S o c Q nt rs ?_
 unfold sA at p
 cases e : fs ρ S with
 | ok t S1 => rw [e] at p; exact fun v o' c' H' s nt' rs' r' => q t S1 v o' c' H' s nt' rs' r' (PostS.step s.weak p)
 | exc e S1 => rw [e] at p; exact fun cls d o' c' H' s rs' nt' x => p cls d σ o' c' H' s.weak nt' rs' x
 | bad => rw [e] at p; exact p

end
end BV
namespace BV
open PySem L2

def b9W (K : PySem.W.Frag) (r : V → List V → Hp → VK → Prop) (m : List D → List D → Option (List D × D)) : Prop := ∀ (o : Gh) (H : Hp) (a : Addr) (vs : List V) (xs : List D) (us : List V) (ds xs' : List D) (d : D) (Q : VK),
 H a = some (.lst vs) → vs.length ≤ sizeLine → RepAll K o H vs xs → RepAll K o H us ds → m xs ds = some (xs', d) → (∀ v vs', RepAll K o H vs' xs' → vs'.length ≤ sizeLine → Rep K o H v d → Q v (upd H a (.lst vs'))) → r (.ref a) us H Q
def b3H (K : PySem.W.Frag) (r : V → List V → Hp → VK → Prop) (m : List D → List D → Option (List D × D)) : Prop := ∀ (o : Gh) (H : Hp) (a : Addr) (vs : List V) (xs : List D) (us : List V) (ds xs' : List D) (d : D) (Q : VK),
 H a = some (.lst vs) → vs.length ≤ sizeLine → RepAll K o H vs xs → RepUs K o H us ds → m xs ds = some (xs', d) → (∀ v vs', RepAll K o H vs' xs' → vs'.length ≤ sizeLine → Rep K o H v d → Q v (upd H a (.lst vs'))) → r (.ref a) us H Q
structure LM (G : Cc) (x : Str) (m : List D → List D → Option (List D × D)) : Prop where
 ex : ∃ (id : String) (r : V → List V → Hp → VK → Prop), Slot "list" x id ∧ typeOf (.builtin id) = pure (.type "method_descriptor") ∧ (∀ X W, G.Ok X W → MtR X id r) ∧ b9W G.K r m
structure LMU (G : Cc) (x : Str) (m : List D → List D → Option (List D × D)) : Prop where
 ex : ∃ (id : String) (r : V → List V → Hp → VK → Prop), Slot "list" x id ∧ typeOf (.builtin id) = pure (.type "method_descriptor") ∧ (∀ X W, G.Ok X W → MtR X id r) ∧ b3H G.K r m
theorem RepAll.oneV {K : PySem.W.Frag} {o : Gh} {H : Hp} {us : List V} {d : D} (r : RepAll K o H us [d]) : ∃ v, us = [v] ∧ Rep K o H v d := by
 cases r with
 | cons v _ ws _ h1 h2 => cases h2; exact ⟨v, rfl, h1⟩
theorem RepAll.nilV {K : PySem.W.Frag} {o : Gh} {H : Hp} {us : List V} (r : RepAll K o H us []) : us = [] := by cases r; rfl
def E4 : List D → List D → Option (List D × D)
 | xs, [d] => if xs.length < sizeLine then some (xs ++ [d], .none) else none
 | _, _ => none
def u8 : List D → List D → Option (List D × D)
 | xs, [.list ys] => if xs.length + ys.length ≤ sizeLine then some (xs ++ ys, .none) else none
 | _, _ => none
section
variable {G : Cc}
theorem Q6 : LM G "append" E4 := ⟨"list.append", rAppend, PySem.F.slot_list_append, PySem.F.type_list_append, fun X W k => mt_append, by
 intro o H a vs xs us ds xs' d Q h z r ra e q
 unfold E4 at e
 split at e
 ·split at e
  ·cases e
   rename_i hl
   obtain ⟨v, rfl, rv⟩ := ra.oneV
   rw [← r.length] at hl
   exact ⟨a, vs, v, rfl, rfl, h, hl, q .non _ (r.append (.cons _ _ _ _ rv .nil)) (by rw [List.length_append]; exact hl) .non⟩
  ·cases e
 ·cases e⟩
theorem D7 : LMU G "extend" u8 := ⟨"list.extend", rExtend, PySem.F.slot_list_extend, PySem.F.type_list_extend, fun X W k => mt_extend, by
 intro o H a vs xs us ds xs' d Q h z r ra e q
 unfold u8 at e
 split at e
 ·split at e
  ·cases e
   rename_i hl
   obtain ⟨v, rfl, rv⟩ := ra.one
   obtain ⟨b, ws, rfl, hb, _, zb, rb⟩ := rv.lstV
   rw [← r.length, ← rb.length] at hl
   exact ⟨a, b, vs, ws, rfl, rfl, h, hb, hl, q .non _ (r.append rb) (by rw [List.length_append]; exact hl) .non⟩
  ·cases e
 ·cases e⟩
end

section
variable {G : Cc} {W : WX} {o o1 : Gh} {c c1 : Cs} {ρ : En} {σ : L2.St} {H H1 : Hp} {pos p : Pos} {a b e : Expr} {es : List Expr} {f f1 f2 f3 : SE} {fs : SA} {fu : SU} {Dn : Ends} {m : List BV.D → List BV.D → Option (List BV.D × BV.D)}
theorem W9 {K : PySem.W.Frag} {S : Sto} {a : Addr} {i : Nat} {xs xs' : List BV.D} {vs' : List V} {d : BV.D} {v : V} (rs : RS K o c ρ S σ H) (h1 : o a = some (.slot i)) (es : σ[i]? = some (some (.ref a))) (r : RepAll K o H vs' xs') (z : vs'.length ≤ sizeLine) :
  Step A0 o c H o c (upd H a (.lst vs')) ∧ RS K o c (ρ.set i (some (.own xs'))) S σ (upd H a (.lst vs')) := ⟨U7 h1, rs.relist h1 es z r⟩
theorem b7F {K : PySem.W.Frag} {r : V → List V → Hp → VK → Prop} {S : Sto} {i : Nat} {xs xs' ds : List BV.D} {us : List V} {d : BV.D} {v : V} {Q : VK} (hm : b9W K r m) (rs : RS K o c ρ S σ H) (e : ρ[i]? = some (some (.own xs))) (ev : σ[i]? = some (some v)) (ra : RepAll K o H us ds) (em : m xs ds = some (xs', d))
  (q : ∀ v' H2, Step A0 o c H o c H2 → RS K o c (ρ.set i (some (.own xs'))) S σ H2 → Rep K o H2 v' d → Q v' H2) : r v us H Q := by
 obtain ⟨a, vs, es, h1, h2, h3, h4⟩ := rs.ownAt e
 rw [ev] at es
 cases es
 refine hm o H a vs xs us ds xs' d Q h2 h3 h4 ra em fun v' vs' r' z rv => ?_
 obtain ⟨s, rs2⟩ := W9 (d := d) (v := v') (xs := xs) rs h1 ev r' z
 exact q v' _ s rs2 (rv.kept rs.cs.trk (m3 (by rw [h1]; simp)))
theorem b4g {K : PySem.W.Frag} {r : V → List V → Hp → VK → Prop} {S : Sto} {i : Nat} {xs xs' ds : List BV.D} {us : List V} {d : BV.D} {v : V} {Q : VK} (hm : b3H K r m) (rs : RS K o c ρ S σ H) (e : ρ[i]? = some (some (.own xs))) (ev : σ[i]? = some (some v)) (ra : RepUs K o H us ds) (em : m xs ds = some (xs', d))
  (q : ∀ v' H2, Step A0 o c H o c H2 → RS K o c (ρ.set i (some (.own xs'))) S σ H2 → Rep K o H2 v' d → Q v' H2) : r v us H Q := by
 obtain ⟨a, vs, es, h1, h2, h3, h4⟩ := rs.ownAt e
 rw [ev] at es
 cases es
 refine hm o H a vs xs us ds xs' d Q h2 h3 h4 ra em fun v' vs' r' z rv => ?_
 obtain ⟨s, rs2⟩ := W9 (d := d) (v := v') (xs := xs) rs h1 ev r' z
 exact q v' _ s rs2 (rv.kept rs.cs.trk (m3 (by rw [h1]; simp)))
theorem b3b {K : PySem.W.Frag} {S : Sto} {i : Nat} {xs : List BV.D} {v : V} (rs : RS K o c ρ S σ H) (e : ρ[i]? = some (some (.own xs))) (ev : σ[i]? = some (some v)) : tyV K "list" v H := by
 obtain ⟨a, vs, es, h1, h2, h3, h4⟩ := rs.ownAt e
 rw [ev] at es
 cases es
 exact .inl ⟨rfl, vs, .of h2⟩
def sLM (i : Nat) (m : List BV.D → List BV.D → Option (List BV.D × BV.D)) (fs : SA) (k : BV.D → En → Sto → Fl) : SS := fun ρ S => match ρ[i]? with
 | some (some (.own xs)) => sA fs (fun ts ρ S => match a1j ts with
  | some ds => (match m xs ds with | some (xs', d) => k d (ρ.set i (some (.own xs'))) S | none => .bad)
  | none => .bad) ρ S
 | _ => .bad
def b3q (i : Nat) (m : List BV.D → List BV.D → Option (List BV.D × BV.D)) (fs : SU) (k : BV.D → En → Sto → Fl) : SS := fun ρ S => match ρ[i]? with
 | some (some (.own xs)) => sA fs (fun ds ρ S => match m xs ds with | some (xs', d) => k d (ρ.set i (some (.own xs'))) S | none => .bad) ρ S
 | _ => .bad
theorem b88 {t : TA} {r : V → List V → Hp → VK → Prop} {k : BV.D → En → Sto → Fl} {S : Sto} {Q : VK} {i : Nat} (hm : b9W G.K r m) (ha : AR G W t fs) (nt : NT o) (rs : RS G.K o c ρ S σ H) (p : PostS G W o c H (sLM i m fs k ρ S) Dn)
  (q : ∀ v d ρ' S' o' c' H', Step A0 o c H o' c' H' → NT o' → RS G.K o' c' ρ' S' σ H' → Rep G.K o' H' v d → PostS G W o' c' H' (k d ρ' S') Dn → Q v H') : tBM G.K "list" r (tVar i) t σ H Q := by
 unfold sLM at p
 split at p
 ·rename_i xs e
  obtain ⟨a, vs, ev, h1, h2, h3, h4⟩ := rs.ownAt e
  refine ⟨_, ev, b3b rs e ev, ?_⟩
  refine ha.s nt rs p fun ts S1 us o1 c1 H1 s1 nt1 rs1 r1 p1 => ?_
  cases e1 : a1j ts with
  | none => simp only [e1] at p1; exact p1.elim
  | some ds =>
   simp only [e1] at p1
   cases e2 : m xs ds with
   | none => simp only [e2] at p1; exact p1.elim
   | some x =>
    obtain ⟨xs', d⟩ := x
    simp only [e2] at p1
    refine b7F hm rs1 e ev (r1.all e1) e2 fun v' H2 s2 rs2 rv => ?_
    exact q v' d _ S1 o1 c1 H2 (s1.weak.trans s2) nt1 rs2 rv (PostS.step s2 p1)
 ·exact p.elim
theorem b6q {t : TA} {r : V → List V → Hp → VK → Prop} {k : BV.D → En → Sto → Fl} {S : Sto} {Q : VK} {i : Nat} (hm : b3H G.K r m) (ha : UAR G W t fu) (nt : NT o) (rs : RS G.K o c ρ S σ H) (p : PostS G W o c H (b3q i m fu k ρ S) Dn)
  (q : ∀ v d ρ' S' o' c' H', Step A0 o c H o' c' H' → NT o' → RS G.K o' c' ρ' S' σ H' → Rep G.K o' H' v d → PostS G W o' c' H' (k d ρ' S') Dn → Q v H') : tBM G.K "list" r (tVar i) t σ H Q := by
 unfold b3q at p
 split at p
 ·rename_i xs e
  obtain ⟨a, vs, ev, h1, h2, h3, h4⟩ := rs.ownAt e
  refine ⟨_, ev, b3b rs e ev, ?_⟩
  refine ha.s nt rs p fun ds S1 us o1 c1 H1 s1 nt1 rs1 r1 p1 => ?_
  cases e2 : m xs ds with
  | none => simp only [e2] at p1; exact p1.elim
  | some x =>
   obtain ⟨xs', d⟩ := x
   simp only [e2] at p1
   refine b4g hm rs1 e ev r1 e2 fun v' H2 s2 rs2 rv => ?_
   exact q v' d _ S1 o1 c1 H2 (s1.weak.trans s2) nt1 rs2 rv (PostS.step s2 p1)
 ·exact p.elim
def a0s : BV.D → En → Sto → Fl := fun _ ρ S => .nx ρ S
theorem b7g (i : Nat) {x nm : Str} {id : String} {r : V → List V → Hp → VK → Prop} {xp ap cp : Pos} {X : Cx} {W : WX} {t : TA} (k : G.Ok X W) (sl : Slot "list" nm id) (ty : typeOf (.builtin id) = pure (.type "method_descriptor")) (hm : MtR X id r) (ha : PA X (e :: es) t)
  (hN : G.N[i]? = some x) (hv : Vis G.sc x) (hd : (x == ("__debug__" : Str)) = false) (hcd : (x == ("__classdict__" : Str)) = false)
  (hbase : ∀ env : PySem.Env, attributeBase (.Name x xp) nm env (eval (.Name x xp) env) = eval (.Name x xp) env)
  (hfew : ∀ env : PySem.Env, ((backTo cp (starEach (e :: es) env)).all (fun x => !x.1) && (backToKw cp (keywordEach [] env)).all (fun x => x.1.isSome) && decide ((e :: es).length + ([] : List Keyword).length + (if ([] : List Keyword).isEmpty then 0 else 1) < 30)) = true)
  (hline : (ap.endLine == cp.line) = true) (hs : ∀ env : PySem.Env, starEach (e :: es) env = (false, eval e env) :: starEach es env) (hpl : ∀ env : PySem.Env, (backTo cp (starEach es env)).any (·.1) = false) :
  PE X (.Call (.Attribute (.Name x xp) nm ap) (e :: es) [] cp) (tBM G.K "list" r (tVar i) t) := by
 have := pe_bm (X := X) PySem.F.plainAttrs_list sl ty hm (pe_var (pos := xp) (k.at hN) (k.vis hv) hd hcd) ha (hbase _) (hfew _) hline (hs _) (hpl _)
 rw [k.K] at this
 exact this
theorem b2u (i : Nat) {x nm : Str} {xp ap cp : Pos} (L : LM G nm m) (h : AV G (e :: es) fs) (hN : G.N[i]? = some x := by rfl) (hv : Vis G.sc x := by first | exact Or.inl rfl | exact Or.inr (Or.inl rfl) | exact Or.inr (Or.inr rfl)) (hd : (x == ("__debug__" : Str)) = false := by decide) (hcd : (x == ("__classdict__" : Str)) = false := by decide)
  (hbase : ∀ env : PySem.Env, attributeBase (.Name x xp) nm env (eval (.Name x xp) env) = eval (.Name x xp) env := by intro _; rfl)
  (hfew : ∀ env : PySem.Env, ((backTo cp (starEach (e :: es) env)).all (fun x => !x.1) && (backToKw cp (keywordEach [] env)).all (fun x => x.1.isSome) && decide ((e :: es).length + ([] : List Keyword).length + (if ([] : List Keyword).isEmpty then 0 else 1) < 30)) = true := by intro _; rfl)
  (hline : (ap.endLine == cp.line) = true := by rfl) (hs : ∀ env : PySem.Env, starEach (e :: es) env = (false, eval e env) :: starEach es env := by intro _; rfl) (hpl : ∀ env : PySem.Env, (backTo cp (starEach es env)).any (·.1) = false := by intro _; rfl)
  (hw : ∀ env : PySem.Env, swapsWith (.Call (.Attribute (.Name x xp) nm ap) (e :: es) [] cp) none pos.line env = pure false := by intro _; rfl) :
  SV G (.Expr (.Call (.Attribute (.Name x xp) nm ap) (e :: es) [] cp) pos) (sLM i m fs a0s) := by
 obtain ⟨t, pp, q⟩ := h
 obtain ⟨id, r, sl, ty, hr, hm⟩ := L.ex
 exact ⟨fun W => tDrop (tBM G.K "list" r (tVar i) (t W)), fun X W k => ps_expr (b7g i k sl ty (hr X W k) (pp X W k) hN hv hd hcd hbase hfew hline hs hpl) (hw _), fun W σ H ρ S o c D nt rs ps =>
  b88 hm (q W) nt rs ps fun v d ρ' S' o' c' H' s nt' rs' rv p' => p' σ o' c' H' Step.refl nt' rs'⟩
theorem a6T (i : Nat) {x nm : Str} {xp ap cp : Pos} (L : LMU G nm m) (h : UAV G (e :: es) fu) (hN : G.N[i]? = some x := by rfl) (hv : Vis G.sc x := by first | exact Or.inl rfl | exact Or.inr (Or.inl rfl) | exact Or.inr (Or.inr rfl)) (hd : (x == ("__debug__" : Str)) = false := by decide) (hcd : (x == ("__classdict__" : Str)) = false := by decide)
  (hbase : ∀ env : PySem.Env, attributeBase (.Name x xp) nm env (eval (.Name x xp) env) = eval (.Name x xp) env := by intro _; rfl)
  (hfew : ∀ env : PySem.Env, ((backTo cp (starEach (e :: es) env)).all (fun x => !x.1) && (backToKw cp (keywordEach [] env)).all (fun x => x.1.isSome) && decide ((e :: es).length + ([] : List Keyword).length + (if ([] : List Keyword).isEmpty then 0 else 1) < 30)) = true := by intro _; rfl)
  (hline : (ap.endLine == cp.line) = true := by rfl) (hs : ∀ env : PySem.Env, starEach (e :: es) env = (false, eval e env) :: starEach es env := by intro _; rfl) (hpl : ∀ env : PySem.Env, (backTo cp (starEach es env)).any (·.1) = false := by intro _; rfl)
  (hw : ∀ env : PySem.Env, swapsWith (.Call (.Attribute (.Name x xp) nm ap) (e :: es) [] cp) none pos.line env = pure false := by intro _; rfl) :
  SV G (.Expr (.Call (.Attribute (.Name x xp) nm ap) (e :: es) [] cp) pos) (b3q i m fu a0s) := by
 obtain ⟨t, pp, q⟩ := h
 obtain ⟨id, r, sl, ty, hr, hm⟩ := L.ex
 exact ⟨fun W => tDrop (tBM G.K "list" r (tVar i) (t W)), fun X W k => ps_expr (b7g i k sl ty (hr X W k) (pp X W k) hN hv hd hcd hbase hfew hline hs hpl) (hw _), fun W σ H ρ S o c D nt rs ps =>
  b6q hm (q W) nt rs ps fun v d ρ' S' o' c' H' s nt' rs' rv p' => p' σ o' c' H' Step.refl nt' rs'⟩
end
end BV
namespace BV
open PySem L2

mutual
def lf : D → Bool
 | .list _ => false
 | .tuple xs => lfs xs
 | .dict _ => false
 | .none => true
 | .bool _ => true
 | .int _ => true
 | .str _ => true
def lfs : List D → Bool
 | [] => true
 | x :: xs => lf x && lfs xs
end
mutual
theorem Rep.lf {K : PySem.W.Frag} {o o' : Gh} {H : Hp} : ∀ {v : V} {d : D}, Rep K o H v d → BV.lf d = true → Rep K o' H v d
 | _, _, .non, _ => .non
 | _, _, .bl b, _ => .bl b
 | _, _, .int i, _ => .int i
 | _, _, .str x h1 h2, _ => .str x h1 h2
 | _, _, .lst a vs ds h1 h2 h3 h4, n => nomatch n
 | _, _, .tup a vs ds h1 h2 h3, n => .tup a vs ds h1 h2 (RepAll.lf h3 n)
 | _, _, .dct tk a ks vs ds kvs h1 h2 h3 h5 h4 e, n => nomatch n
theorem RepAll.lf {K : PySem.W.Frag} {o o' : Gh} {H : Hp} : ∀ {vs : List V} {ds : List D}, RepAll K o H vs ds → lfs ds = true → RepAll K o' H vs ds
 | _, _, .nil, _ => .nil
 | _, _, .cons v d vs ds h1 h2, n => by
  rw [lfs, Bool.and_eq_true] at n
  exact .cons v d vs ds (Rep.lf h1 n.1) (RepAll.lf h2 n.2)
end
def lfT : T → Bool
 | .val d => lf d
 | .own xs => lfs xs
 | .own2 _ => false
 | .ownd _ kvs => lfs (kvs.map (·.2))
 | .cel _ => true
 | .scr _ => false
 | .exn _ _ _ _ => false
 | .tree _ => false
 | .rof _ _ => false
 | .recs _ _ => false
def lfC : Ce → Bool
 | .dead => true
 | .lst xs => lfs xs
 | .dct _ kvs => lfs (kvs.map (·.2))
 | .tab => true
 | .rcd _ _ => false
def lfS (S : Sto) : Bool := S.all lfC
def frT : T → T
 | .own xs => .val (.list xs)
 | .own2 xss => .val (.list (xss.map PyData.list))
 | .ownd q kvs => .val (.dict (mkD q kvs))
 | .tree d => .val d
 | .recs _ ns => .recs false ns
 | t => t
def frE (ρ : En) : En := ρ.map fun t => t.map frT
def b6c (f : SE) : SE := fun ρ S => match f (frE ρ) S with
 | .ok t S1 => if lfT t && lfS S1 then .ok t S1 else .bad
 | .exc e S1 => if lfS S1 then .exc e S1 else .bad
 | .bad => .bad
def T6 (o o2 : Gh) : Gh := fun a => match o a with
 | some (.slot i) => some (.slot i)
 | _ => o2 a
section
variable {G : Cc} {W : WX} {o o1 o2 : Gh} {c c1 c2 : Cs} {ρ : En} {σ : L2.St} {H H1 H2 : Hp} {S S1 : Sto} {pos p : Pos} {a b e : Expr} {f : SE} {t : T} {v : V}
theorem RepT.fr {K : PySem.W.Frag} {i : Nat} (tr : Trk o H) (r : RepT K o c H (.slot i) v t) : RepT K (q7 B5 o) c H (.slot i) v (frT t) := by
 -- its owner: temporary, then let go
 have un : ∀ a, o a = some (.slot i) → q7 B5 o a = none := fun a h => by unfold q7; rw [h]; rfl
 cases t with
 | val d => exact Rep.kept tr j4 r
 | own xs =>
  obtain ⟨x, vs, rfl, q, h, z, ra⟩ := r
  exact .lst x vs _ h (un _ q) z (ra.kept tr j4)
 | own2 xss =>
  obtain ⟨x, as, rfl, q, h, nd, z, le, f⟩ := r
  refine .lst x _ _ h (un _ q) (by rw [List.length_map]; exact z) ?_
  clear h nd z q
  induction as generalizing xss with
  | nil =>
   cases xss with
   | nil => exact .nil
   | cons _ _ => simp at le
  | cons b as ih =>
   cases xss with
   | nil => simp at le
   | cons xs xss =>
    obtain ⟨q', vs, h', z', ra⟩ := f 0 b xs rfl rfl
    refine .cons _ _ _ _ (.lst b vs xs h' (un _ q') z' (ra.kept tr j4)) (ih xss (by simpa using le) fun i b' xs' e1 e2 => f (i + 1) b' xs' (by simpa using e1) (by simpa using e2))
 | ownd tk kvs =>
  obtain ⟨x, ks, vs, ds, rfl, q, h, z, z2, ra, rfl⟩ := r
  exact .dct tk x ks vs ds _ h.r (un _ q) z z2 (ra.kept tr j4) rfl
 | cel n => exact r
 | scr ns =>
  obtain ⟨x, e, z, h⟩ := r
  refine ⟨x, e, z, ?_⟩
  rcases h with h | ⟨h, n⟩ | h
  ·exact .inl h
  ·exact .inr (.inl ⟨h, l9 n⟩)
  ·exact .inr (.inr h)
 | exn _ _ _ _ => exact r
 | tree d =>
  obtain ⟨as, r, nd⟩ := r
  exact r.rep un
 | rof b u =>
  obtain ⟨x, fv, e, q, h1, h2, h3⟩ := r
  exact ⟨x, fv, e, d4 q rfl, h1, h2, h3.moved tr j4 fun b e => d4 e rfl⟩
 | recs b ns => exact RcsR.free un j4 r
theorem RS.fr {K : PySem.W.Frag} (rs : RS K o c ρ S σ H) : RS K (q7 B5 o) c (frE ρ) S σ H :=
 ⟨by unfold frE; rw [List.length_map]; exact rs.len, fun i t e => by
  unfold frE at e
  rw [List.getElem?_map] at e
  cases e1 : ρ[i]? with
  | none => rw [e1] at e; cases e
  | some u =>
   rw [e1] at e
   cases u with
   | none => cases e
   | some t0 =>
    simp only [Option.map_some, Option.some.injEq] at e
    subst e
    obtain ⟨v, ev, r⟩ := rs.slot i t0 e1
    exact ⟨v, ev, r.fr rs.cs.trk⟩, rs.cs.drop fun _ => rfl⟩
theorem X4 (s : Step c9 (q7 B5 o) c H o2 c2 H2) : Step c9 o c H (T6 o o2) c2 H2 where
 keep := fun a u e n => s.keep a u e fun w hw => n w (E9 hw).1
 own := fun a w e n => by
  unfold T6
  rw [e]
  cases w with
  | slot i => rfl
  | cell n' => exact absurd trivial n
  | tmp => exact s.own a _ (d4 e rfl) n
  | prot => exact s.own a _ (d4 e rfl) n
  | seen => exact s.own a _ (d4 e rfl) n
 new := fun a e n => by
  unfold T6 at n
  rw [e] at n
  exact s.new a (l9 e) n
 pre := s.pre
theorem Y0 (s : Step c9 (q7 B5 o) c H o2 c2 H2) (tr : Trk o H) {a : Addr} {w : Ow} (h : o2 a = some w) : T6 o o2 a = some w := by
 unfold T6
 cases e : o a with
 | none => exact h
 | some u =>
  cases u with
  | slot i =>
   have e1 : q7 B5 o a = none := by unfold q7; rw [e]; rfl
   have := s.new a e1 (by rw [h]; simp)
   obtain ⟨u, hu, _⟩ := tr a (by rw [e]; simp)
   rw [this] at hu; cases hu
  | _ => exact h
theorem b4B (s : Step c9 (q7 B5 o) c H o2 c2 H2) (tr : Trk o H) (tr2 : Trk o2 H2) : Trk (T6 o o2) H2 := fun a h => by
 cases e : o a with
 | none => exact tr2 a (by unfold T6 at h; rw [e] at h; exact h)
 | some u =>
  cases u with
  | slot i =>
   obtain ⟨u, hu, q⟩ := tr a (by rw [e]; simp)
   exact ⟨u, s.keep a u hu (fun w hw => by have := (E9 hw).1; rw [e] at this; cases this; have := (E9 hw).2; simp [B5] at this), q⟩
  | _ => exact tr2 a (by unfold T6 at h; rw [e] at h; exact h)
theorem CellR.lf {K : PySem.W.Frag} {n : Nat} {b : Addr} {k : Ce} (h : ∀ b, o b = some (.cell n) → o1 b = some (.cell n)) (hk : lfC k = true) (y : CellR K o H n b k) : CellR K o1 H n b k := by
 cases k with
 | dead => trivial
 | lst xs =>
  obtain ⟨q1, vs, q2, q3, q4⟩ := y
  exact ⟨h _ q1, vs, q2, q3, q4.lf hk⟩
 | dct tk kvs =>
  obtain ⟨q1, ks, vs, ds, q2, q3, q5, q4, q6⟩ := y
  refine ⟨h _ q1, ks, vs, ds, q2, q3, q5, q4.lf ?_, q6⟩
  subst q6
  have hl : ks.length = ds.length := by rw [q5, q4.length]
  have e : (ks.zip ds).map (·.2) = ds := List.map_snd_zip (Nat.le_of_eq hl.symm)
  have hk' : lfs ((ks.zip ds).map (·.2)) = true := hk
  rw [e] at hk'
  exact hk'
 | tab =>
  obtain ⟨q0, q1, ps, q2, q3, q4⟩ := y
  exact ⟨q0, h _ q1, ps, q2, q3, fun pos cv e => by
   obtain ⟨b, e1, e2, e3⟩ := q4 pos cv e
   exact ⟨b, e1, e2, h _ e3⟩⟩
 | rcd b v => cases hk
theorem b2L {K : PySem.W.Frag} (s : Step c9 (q7 B5 o) c H o2 c2 H2) (tr : Trk o H) (cs : CS K o2 c2 S H2) (h : lfS S = true) : CS K (T6 o o2) c2 S H2 :=
 ⟨cs.clen, fun n a k e1 e2 => (cs.cell n a k e1 e2).lf (fun a q => Y0 s tr q) (List.all_eq_true.mp h _ (List.mem_of_getElem? e2)), b4B s tr cs.trk⟩
theorem b4X {K : PySem.W.Frag} (s : Step c9 (q7 B5 o) c H o2 c2 H2) (tr : Trk o H) (h : lfT t = true) (r : RepT K o2 c2 H2 .tmp v t) : RepT K (T6 o o2) c2 H2 .tmp v t := by
 cases t with
 | val d => exact Rep.lf r h
 | own xs =>
  obtain ⟨x, vs, e, q, h', z, ra⟩ := r
  exact ⟨x, vs, e, Y0 s tr q, h', z, ra.lf h⟩
 | ownd tk kvs =>
  obtain ⟨x, ks, vs, ds, e, q, h', z, z2, ra, e'⟩ := r
  refine ⟨x, ks, vs, ds, e, Y0 s tr q, h', z, z2, ra.lf ?_, e'⟩
  subst e'
  have e : (ks.zip ds).map (·.2) = ds := List.map_snd_zip (Nat.le_of_eq (by rw [z2, ra.length]))
  have hk' : lfs ((ks.zip ds).map (·.2)) = true := h
  rw [e] at hk'
  exact hk'
 | cel n => exact r
 | own2 _ => cases h
 | scr _ => cases h
 | exn _ _ _ _ => cases h
 | tree _ => cases h
 | rof _ _ => cases h
 | recs _ _ => cases h
theorem b2S (h : EV G e f) : EV G e (b6c f) := by
 obtain ⟨t, pp, q⟩ := h
 refine ⟨t, pp, fun W σ H ρ S o c Q nt rs p => ?_⟩
 refine q W σ H (frE ρ) S (q7 B5 o) c Q (fun a h => nt a (E9 h).1) rs.fr ?_
 unfold b6c at p
 cases e1 : f (frE ρ) S with
 | bad => rw [e1] at p; exact p
 | exc e' S' =>
  rw [e1] at p
  intro cls d o' c' H' s rs' nt' x
  by_cases hb : lfS S' = true
  ·simp only [if_pos hb] at p
   exact p cls d (T6 o o') c' H' (X4 s) (rs.step (X4 s) (b2L s rs.cs.trk rs'.cs hb)) (fun a h => by
    unfold T6 at h
    split at h
    ·cases h
    ·exact nt' a h) x
  ·simp only [if_neg hb] at p; exact p.elim
 | ok t0 S' =>
  rw [e1] at p
  intro v o' c' H' s rs' r'
  by_cases hb : (lfT t0 && lfS S') = true
  ·simp only [if_pos hb] at p
   rw [Bool.and_eq_true] at hb
   exact p v (T6 o o') c' H' (X4 s) (rs.step (X4 s) (b2L s rs.cs.trk rs'.cs hb.2)) (b4X s rs.cs.trk hb.1 r')
  ·simp only [if_neg hb] at p; exact p.elim

section
variable {K : PySem.W.Frag} {κ : Type} [DecidableEq κ]
theorem a97 (f : κ → BV.D) (g : κ → Key ⊕ List Key) (hf : ∀ k, keyOf (f k) = some (g k)) (hg : ∀ a b, g a = g b → a = b) (k : κ) : ∀ (kvs : List (κ × V)) (ds : List BV.D), kvs.length = ds.length →
  ((kvs.map (fun p => f p.1)).zip ds).any (fun p => decide (keyOf p.1 = some (g k))) = kvs.any (fun p => decide (p.1 = k))
 | [], _, _ => rfl
 | _ :: _, [], h => by simp at h
 | p :: kvs, d :: ds, h => by
  have ih := a97 f g hf hg k kvs ds (by simpa using h)
  rw [List.map_cons, List.zip_cons_cons, List.any_cons, List.any_cons, ih, hf]
  congr 1
  by_cases e : p.1 = k
  ·rw [decide_eq_true e, e, decide_eq_true rfl]
  ·rw [decide_eq_false e, decide_eq_false (fun z => e (hg _ _ (Option.some.inj z)))]
theorem b0B (f : κ → BV.D) (g : κ → Key ⊕ List Key) (hf : ∀ k, keyOf (f k) = some (g k)) (hg : ∀ a b, g a = g b → a = b) (k : κ) {v : V} {dv : BV.D} (rv : Rep K o H v dv) : ∀ (kvs : List (κ × V)) (ds : List BV.D), RepAll K o H (kvs.map (·.2)) ds →
  ∃ ds', RepAll K o H ((kvs.map fun p => if p.1 = k then (p.1, v) else p).map (·.2)) ds' ∧
   ((kvs.map (fun p => f p.1)).zip ds).map (fun p => if keyOf p.1 = some (g k) then (p.1, dv) else p) = ((kvs.map fun p => if p.1 = k then (p.1, v) else p).map (fun p => f p.1)).zip ds'
 | [], ds, r => by cases r; exact ⟨[], .nil, rfl⟩
 | p :: kvs, [], r => by cases r
 | p :: kvs, d :: ds, r => by
  cases r with
  | cons _ _ _ _ r1 r2 =>
   obtain ⟨ds', i1, i2⟩ := b0B f g hf hg k rv kvs ds r2
   by_cases e : p.1 = k
   ·refine ⟨dv :: ds', ?_, ?_⟩
    ·rw [List.map_cons, List.map_cons, if_pos e]
     exact .cons _ _ _ _ rv i1
    ·rw [List.map_cons, List.zip_cons_cons, List.map_cons, i2, List.map_cons, List.map_cons, List.zip_cons_cons, if_pos e, if_pos (by rw [hf, e])]
   ·refine ⟨d :: ds', ?_, ?_⟩
    ·rw [List.map_cons, List.map_cons, if_neg e]
     exact .cons _ _ _ _ r1 i1
    ·rw [List.map_cons, List.zip_cons_cons, List.map_cons, i2, List.map_cons, List.map_cons, List.zip_cons_cons, if_neg e, if_neg (by rw [hf]; exact fun z => e (hg _ _ (Option.some.inj z)))]
theorem b0U (f : κ → BV.D) (g : κ → Key ⊕ List Key) (hf : ∀ k, keyOf (f k) = some (g k)) (hg : ∀ a b, g a = g b → a = b) (k : κ) {v : V} {dv : BV.D} (rv : Rep K o H v dv) (kvs : List (κ × V)) (ds : List BV.D) (r : RepAll K o H (kvs.map (·.2)) ds) :
  ∃ ds', RepAll K o H ((putK kvs k v).map (·.2)) ds' ∧ b5E ((kvs.map (fun p => f p.1)).zip ds) (g k) (f k) dv = ((putK kvs k v).map (fun p => f p.1)).zip ds' ∧ (putK kvs k v).length ≤ kvs.length + 1 := by
 have hl : kvs.length = ds.length := by have := r.length; rw [List.length_map] at this; exact this
 unfold b5E putK
 rw [a97 f g hf hg k kvs ds hl]
 by_cases h : (kvs.any fun p => decide (p.1 = k)) = true
 ·rw [if_pos h, if_pos h]
  obtain ⟨ds', i1, i2⟩ := b0B f g hf hg k rv kvs ds r
  exact ⟨ds', i1, i2, by rw [List.length_map]; omega⟩
 ·rw [if_neg h, if_neg h]
  refine ⟨ds ++ [dv], ?_, ?_, by rw [List.length_append]; exact Nat.le_refl _⟩
  ·rw [List.map_append]
   exact r.append (.cons _ _ _ _ rv .nil)
  ·rw [List.map_append, List.zip_append (by rw [List.length_map]; exact hl)]
   rfl
end
def a37 (q : Bool) (kvs : List (BV.D × BV.D)) (kd v : BV.D) : Option (List (BV.D × BV.D)) := match keyOf kd with
 | some k => if (b12 q k || (q && a2h k)) = true ∧ kvs.length < sizeLine then some (b5E kvs k kd v) else none
 | none => none
def b60 (K : PySem.W.Frag) (o : Gh) (H : Hp) (a : Addr) (q : Bool) (kvs : List (BV.D × BV.D)) : Prop := ∃ ks vs ds, DAtW K q H a ks vs ∧ vs.length ≤ sizeLine ∧ ks.length = vs.length ∧ RepAll K o H vs ds ∧ kvs = ks.zip ds
def b4r (K : PySem.W.Frag) : TSet := fun o i v H Q => ∃ (a : Addr) (kvs : List (List Int × V)) (xs : List (List Int × Addr × Value)) (b : Addr) (k : List Int), o = .ref a ∧ HX H a xs ∧ KX K H kvs xs ∧ xs.length ≤ sizeLine ∧ i = .ref b ∧ SqT K H b (k.map V.int) ∧ ∀ ep r, RelV v r → Q (upd H a (.ext (tdf ep a (storedH xs k b r))))
theorem b9K {X : Cx} (hu : X.A.units + 1 < cLine) : PSet X (b4r X.K) := by
 intro pins s σ H o i v ov iv u Q I ro ri rv q
 obtain ⟨a, kvs, xs, b, k, rfl, e, kx, hl, rfl, eb, q⟩ := q
 cases (show ov = Value.ref a from ro)
 cases (show iv = Value.ref b from ri)
 exact b90 hu I e kx hl eb rv fun ep s' I' => ⟨_, I', q ep u rv⟩
def a2R (K : PySem.W.Frag) : TSet := fun o i v H Q => rSetL o i v H Q ∨ (rSetD o i v H Q ∨ b4r K o i v H Q)
theorem a1X {K : PySem.W.Frag} {a : Addr} {q : Bool} {kvs kvs' : List (BV.D × BV.D)} {kd dv : BV.D} {y v : V} (h : b60 K o H a q kvs) (no : o a ≠ none) (tr : Trk o H) (ry : RepU K o H y kd) (rv : Rep K o H v dv) (e : a37 q kvs kd dv = some kvs') (Q : Hp → Prop) (hQ : ∀ u, C0 u → b60 K o (upd H a u) a q kvs' → Q (upd H a u)) :
  a2R K (.ref a) y v H Q := by
 obtain ⟨ks, vs, ds, hd, hz, hl, ra, rfl⟩ := h
 unfold a37 at e
 cases ek : keyOf kd with
 | none => rw [ek] at e; cases e
 | some k =>
  rw [ek] at e
  dsimp only at e
  split at e
  ·rename_i hc
   cases e
   obtain ⟨hft, hlen⟩ := hc
   cases q with
   | false =>
    cases k with
    | inr k => cases hft
    | inl k =>
     obtain ⟨es, hH, rfl, rfl⟩ := hd
     have ey : kd = b0C k := a3g ek
     have ev : y = kV k := c02 ry ey
     subst ey
     obtain ⟨ds', i1, i2, i3⟩ := b0U (fun k => b0C k) (fun k => .inl k) a2O (fun a b h => Sum.inl.inj h) k rv es ds ra
     have hn : es.length < sizeLine := by
      have e1 := ra.length
      rw [List.length_map] at e1
      rw [List.length_zip, List.length_map, ← e1, Nat.min_self] at hlen
      exact hlen
     refine .inr (.inl ⟨a, _, rfl, .inl ⟨es, k, hH, ev, hn, rfl⟩, hQ (.dK (putK es k v)) trivial ⟨_, _, ds', ⟨_, upd_same, rfl, rfl⟩, by rw [List.length_map]; omega, by rw [List.length_map, List.length_map], i1.kept tr (m3 no), ?_⟩⟩)
     exact i2
   | true =>
    have hft' : a2h k = true := by
     cases k with
     | inl k => exact hft
     | inr k => exact hft
    obtain ⟨ns, rfl⟩ := R8 hft'
    obtain ⟨es, xs, hH, kx, hs, rfl, rfl⟩ := hd
    have ey := O4 ek
    subst ey
    obtain ⟨b, us, rfl, sb, _, rb⟩ := ry.tupV
    have eu : us = ns.map V.int := X6 rb
    subst eu
    obtain ⟨ds', i1, i2, i3⟩ := b0U (fun k => .tuple (k.map PyData.int)) F9 w4 J7 ns rv es ds ra
    have hn : es.length < sizeLine := by
     have e1 := ra.length
     rw [List.length_map] at e1
     rw [List.length_zip, List.length_map, ← e1, Nat.min_self] at hlen
     exact hlen
    have hx : xs.length ≤ sizeLine := by rw [← Paired.length kx]; omega
    refine .inr (.inr ⟨a, es, xs, b, ns, rfl, hH, kx, hx, rfl, sb, fun ep r rr => hQ _ trivial ⟨_, _, ds', ⟨putK es ns v, storedH xs ns b r, ⟨ep, upd_same⟩, (kx.put ns sb rr).kept (fun c us z => SqT.kept tr (m3 no) z), hs, rfl, rfl⟩, by rw [List.length_map]; omega, by rw [List.length_map, List.length_map], i1.kept tr (m3 no), ?_⟩⟩)
    exact i2
  ·cases e
theorem RS.owndAt {K : PySem.W.Frag} {S : Sto} {i : Nat} {q : Bool} {kvs : List (BV.D × BV.D)} (rs : RS K o c ρ S σ H) (e : ρ[i]? = some (some (.ownd q kvs))) : ∃ a, σ[i]? = some (some (.ref a)) ∧ o a = some (.slot i) ∧ b60 K o H a q kvs := by
 obtain ⟨v, e1, a, ks, vs, ds, rfl, h1, h2, h3, h4, h5, h6⟩ := rs.slot i _ e
 exact ⟨a, e1, h1, ks, vs, ds, h2, h3, h4, h5, h6⟩

variable {f1 f2 : SE} {i : Nat} {x : Str} {xp tp : Pos}
theorem PSet.or {X : Cx} {r r' : TSet} (h : PSet X r) (h' : PSet X r') : PSet X (fun o i v H Q => r o i v H Q ∨ r' o i v H Q) := by
 intro pins s σ H o i v ov iv u Q I ro ri rv q
 rcases q with q | q
 ·exact h pins s σ H o i v ov iv u Q I ro ri rv q
 ·exact h' pins s σ H o i v ov iv u Q I ro ri rv q
theorem a91 {X : Cx} (hu : X.A.units + 1 < cLine) : PSet X (a2R X.K) := PSet.or set_list (PSet.or (set_dict hu) (b9K hu))
def b7L (i : Nat) (fi fv : SE) : SS := sE fv fun t ρ S => match asD t with
 | none => .bad
 | some d => match ρ[i]? with
  | some (some (.own xs)) => sD fi (fun di ρ S => match di with
   | .int j => (match ixN xs.length j with | some k => .nx (ρ.set i (some (.own (xs.set k d)))) S | none => .bad)
   | _ => .bad) ρ S
  | some (some (.ownd q kvs)) => sD fi (fun di ρ S => match a37 q kvs di d with
   | some kvs' => .nx (ρ.set i (some (.ownd q kvs'))) S
   | none => .bad) ρ S
  | _ => .bad
theorem b2J (i : Nat) (h1 : EV G e f1) (h2 : UV G b f2) (hN : G.N[i]? = some x := by rfl) (hv : Vis G.sc x := by first | exact Or.inl rfl | exact Or.inr (Or.inl rfl) | exact Or.inr (Or.inr rfl)) (hd : (x == ("__debug__" : Str)) = false := by decide) (hcd : (x == ("__classdict__" : Str)) = false := by decide)
  (ha : ∀ (env : PySem.Env) v, assign (.Subscript (.Name x xp) b tp) env v = (do
   let ov ← holding [v] (eval (.Name x xp) env)
   let iv ← holding [v, ov] (eval b env)
   standAt tp
   holding [v, ov, iv] (setItem ov iv v)
   release [v, ov, iv] []) := by intro _ _; rfl)
  (hs : ∀ env : PySem.Env, env.scope = G.sc → swapsWithSole [.Subscript (.Name x xp) b tp] e pos.line env = pure false := by intro _ _; rfl) (hw : ∀ env : PySem.Env, swappedStores [.Subscript (.Name x xp) b tp] e env = pure none := by intro _; rfl)
  (h3 : ∀ env : PySem.Env, (assignEach [.Subscript (.Name x xp) b tp] env).map (·.2) = [assign (.Subscript (.Name x xp) b tp) env] := by intro _; rfl) : SV G (.Assign [.Subscript (.Name x xp) b tp] e pos) (b7L i f2 f1) := by
 obtain ⟨t1, p1, q1⟩ := h1
 obtain ⟨t2, p2, q2⟩ := h2
 refine ⟨fun W => tAsg (t1 W) (L2.gSub (tVar i) (t2 W) (a2R G.K)), fun X W k => ps_asg (p1 X W k) (pg_sub (pe_var (pos := xp) (k.at hN) (k.vis hv) hd hcd) (p2 X W k) (by have := a91 (X := X) (by have := k.units; omega); rw [k.K] at this; exact this) (ha _)) (hs _ k.sc) (hw _) (h3 _), fun W σ H ρ S o c D nt rs ps => ?_⟩
 refine (q1 W).s nt rs ps fun t S1 v o1 c1 H1 s1 rs1 r1 p1 => ?_
 cases e1 : asD t with
 | none => simp only [e1] at p1; exact p1.elim
 | some d =>
  simp only [e1] at p1
  split at p1
  rotate_left
  ·rename_i q kvs e2
   have rd := r1.toD rs1.cs.trk e1
   have rs2 := rs1.untmp
   have nt2 : NT (unT o1) := B7
   have st : Step A0 o1 c1 H1 (unT o1) c1 H1 := ⟨fun a u e _ => e, fun a w e n => d4 e (by cases w <;> first | rfl | exact absurd trivial n), fun a e n => absurd (l9 e) n, List.prefix_refl c1⟩
   have p2 := PostS.step st p1
   obtain ⟨a, ev, ho, hh⟩ := rs2.owndAt e2
   refine ⟨_, ev, (q2 W).s nt2 rs2 p2 fun di S3 iv o3 c3 H3 s3 nt3 rs3 ri p3 => ?_⟩
   have rd3 := rd.step rs2.cs.trk s3
   obtain ⟨a', ev', ho', hh'⟩ := rs3.owndAt e2
   rw [ev] at ev'
   cases ev'
   cases e4 : a37 q kvs di d with
   | none => simp only [e4] at p3; exact p3.elim
   | some kvs' =>
    simp only [e4] at p3
    exact a1X hh' (by rw [ho']; simp) rs3.cs.trk ri rd3 e4 _ fun u ou ⟨ks, vs, ds, h2, h3, h4, h5, h6⟩ => p3 σ o3 c3 _ (U7 ho') nt3 (rs3.change ho' ou ev ⟨a, ks, vs, ds, rfl, ho', h2, h3, h4, h5, h6⟩)
  ·exact p1.elim
  ·rename_i xs e2
   ·skip
    have rd := r1.toD rs1.cs.trk e1
    have rs2 := rs1.untmp
    have nt2 : NT (unT o1) := B7
    have st : Step A0 o1 c1 H1 (unT o1) c1 H1 := ⟨fun a u e _ => e, fun a w e n => d4 e (by cases w <;> first | rfl | exact absurd trivial n), fun a e n => absurd (l9 e) n, List.prefix_refl c1⟩
    have p2 := PostS.step st p1
    obtain ⟨a, vs, ev, ho, hH, hz, ra⟩ := rs2.ownAt e2
    refine ⟨_, ev, (q2 W).s nt2 rs2 p2 fun di S3 iv o3 c3 H3 s3 nt3 rs3 ri p3 => ?_⟩
    have rd3 := rd.step rs2.cs.trk s3
    obtain ⟨a', vs', ev', ho', hH', hz', ra'⟩ := rs3.ownAt e2
    rw [ev] at ev'
    cases ev'
    cases di with
    | int j =>
     cases e4 : ixN xs.length j with
     | none => simp only [e4] at p3; exact p3.elim
     | some kk =>
      simp only [e4] at p3
      refine .inl ⟨a, vs', j, kk, rfl, ri.intV, hH', by rw [ra'.length]; exact e4, ?_⟩
      obtain ⟨s4, rs4⟩ := W9 (d := d) (v := v) (xs := xs) rs3 ho' ev (RepAll.set rd3 kk ra') (by rw [List.length_set]; exact hz')
      exact p3 σ o3 c3 _ s4 nt3 rs4
    | _ => exact p3.elim

theorem a0g {K : PySem.W.Frag} {n : Nat} {ca : Addr} {u : HO} {ce : Ce} (rs : RS K o c ρ S σ H) (h : o ca = some (.cell n)) (hc : c[n]? = some ca) (ou : C0 u) (r : CellR K o (upd H ca u) n ca ce) :
  Step c9 o c H o c (upd H ca u) ∧ RS K o c ρ (S.set n ce) σ (upd H ca u) := by
 have st : Step c9 o c H o c (upd H ca u) := ⟨fun b x e m => by rw [upd_ne (fun z => m (.cell n) (by rw [z]; exact h) trivial)]; exact e, fun _ _ e _ => e, fun _ e m => absurd e m, List.prefix_refl c⟩
 have kw : Kept o H o (upd H ca u) := m3 (by rw [h]; simp)
 refine ⟨st, rs.step st ⟨by rw [List.length_set]; exact rs.cs.clen, fun m b k e1 e2 => ?_, fun b hb => ?_⟩⟩
 ·by_cases q : m = n
  ·subst q
   rw [hc] at e1
   cases e1
   have hl := (List.getElem?_eq_some_iff.mp hc).1
   rw [List.getElem?_set_self (by rw [← rs.cs.clen]; exact hl)] at e2
   cases e2
   exact r
  ·rw [List.getElem?_set_ne (Ne.symm q)] at e2
   exact (rs.cs.cell m b k e1 e2).kept rs.cs.trk kw fun b q1 => ⟨q1, fun x hx => by
    rw [upd_ne (fun z => by rw [z, h] at q1; cases q1; exact q rfl)]
    exact hx⟩
 ·by_cases z : b = ca
  ·subst z; exact ⟨_, upd_same, ou⟩
  ·obtain ⟨x, e, q⟩ := rs.cs.trk b hb
   exact ⟨x, by rw [upd_ne z]; exact e, q⟩
theorem a75 {K : PySem.W.Frag} {n : Nat} {ca : Addr} {xs' : List BV.D} {vs' : List V} {d : BV.D} {w : V} (rs : RS K o c ρ S σ H) (h : o ca = some (.cell n)) (hc : c[n]? = some ca) (r : RepAll K o H vs' xs') (z : vs'.length ≤ sizeLine) :
  Step c9 o c H o c (upd H ca (.lst vs')) ∧ RS K o c ρ (S.set n (.lst xs')) σ (upd H ca (.lst vs')) :=
 a0g rs h hc trivial ⟨h, vs', upd_same, z, r.kept rs.cs.trk (m3 (by rw [h]; simp))⟩
def b0L (i : Nat) (fi fv : SE) : SS := sE fv fun t ρ S => match asD t with
 | none => .bad
 | some d => match ρ[i]? with
  | some (some (.cel n)) => sD fi (fun di ρ S => match S[n]? with
   | some (.lst xs) => (match di with
    | .int j => (match ixN xs.length j with | some k => .nx ρ (S.set n (.lst (xs.set k d))) | none => .bad)
    | _ => .bad)
   | some (.dct q kvs) => (match a37 q kvs di d with | some kvs' => .nx ρ (S.set n (.dct q kvs')) | none => .bad)
   | _ => .bad) ρ S
  | _ => .bad
theorem a4I (i : Nat) (h1 : EV G e f1) (h2 : UV G b f2) (hN : G.N[i]? = some x := by rfl) (hv : Vis G.sc x := by first | exact Or.inl rfl | exact Or.inr (Or.inl rfl) | exact Or.inr (Or.inr rfl)) (hd : (x == ("__debug__" : Str)) = false := by decide) (hcd : (x == ("__classdict__" : Str)) = false := by decide)
  (ha : ∀ (env : PySem.Env) v, assign (.Subscript (.Name x xp) b tp) env v = (do
   let ov ← holding [v] (eval (.Name x xp) env)
   let iv ← holding [v, ov] (eval b env)
   standAt tp
   holding [v, ov, iv] (setItem ov iv v)
   release [v, ov, iv] []) := by intro _ _; rfl)
  (hs : ∀ env : PySem.Env, env.scope = G.sc → swapsWithSole [.Subscript (.Name x xp) b tp] e pos.line env = pure false := by intro _ _; rfl) (hw : ∀ env : PySem.Env, swappedStores [.Subscript (.Name x xp) b tp] e env = pure none := by intro _; rfl)
  (h3 : ∀ env : PySem.Env, (assignEach [.Subscript (.Name x xp) b tp] env).map (·.2) = [assign (.Subscript (.Name x xp) b tp) env] := by intro _; rfl) : SV G (.Assign [.Subscript (.Name x xp) b tp] e pos) (b0L i f2 f1) := by
 obtain ⟨t1, p1, q1⟩ := h1
 obtain ⟨t2, p2, q2⟩ := h2
 refine ⟨fun W => tAsg (t1 W) (L2.gSub (tVar i) (t2 W) (a2R G.K)), fun X W k => ps_asg (p1 X W k) (pg_sub (pe_var (pos := xp) (k.at hN) (k.vis hv) hd hcd) (p2 X W k) (by have := a91 (X := X) (by have := k.units; omega); rw [k.K] at this; exact this) (ha _)) (hs _ k.sc) (hw _) (h3 _), fun W σ H ρ S o c D nt rs ps => ?_⟩
 refine (q1 W).s nt rs ps fun t S1 v o1 c1 H1 s1 rs1 r1 p1 => ?_
 cases e1 : asD t with
 | none => simp only [e1] at p1; exact p1.elim
 | some d =>
  simp only [e1] at p1
  split at p1
  rotate_left
  ·exact p1.elim
  ·rename_i n e2
   ·skip
    have rd := r1.toD rs1.cs.trk e1
    have rs2 := rs1.untmp
    have nt2 : NT (unT o1) := B7
    have st : Step A0 o1 c1 H1 (unT o1) c1 H1 := ⟨fun a u e _ => e, fun a w e n => d4 e (by cases w <;> first | rfl | exact absurd trivial n), fun a e n => absurd (l9 e) n, List.prefix_refl c1⟩
    have p2 := PostS.step st p1
    obtain ⟨cv, ev, ca, hca, rfl⟩ := rs2.slot i _ e2
    refine ⟨_, ev, (q2 W).s nt2 rs2 p2 fun di S3 iv o3 c3 H3 s3 nt3 rs3 ri p3 => ?_⟩
    have rd3 := rd.step rs2.cs.trk s3
    have hc3 := a1N s3.pre hca
    cases e5 : S3[n]? with
    | none => simp only [e5] at p3; exact p3.elim
    | some k0 =>
     cases k0 with
     | dead => simp only [e5] at p3; exact p3.elim
     | tab => simp only [e5] at p3; exact p3.elim
     | rcd b v => simp only [e5] at p3; exact p3.elim
     | dct q kvs =>
      simp only [e5] at p3
      cases e4 : a37 q kvs di d with
      | none => simp only [e4] at p3; exact p3.elim
      | some kvs' =>
       simp only [e4] at p3
       obtain ⟨ho3, hh⟩ := rs3.cs.cell n ca _ hc3 e5
       refine a1X hh (by rw [ho3]; simp) rs3.cs.trk ri rd3 e4 _ fun u ou hh' => ?_
       obtain ⟨s4, rs4⟩ := a0g (ce := .dct q kvs') rs3 ho3 hc3 ou ⟨ho3, hh'⟩
       exact p3 σ o3 c3 _ s4.weak nt3 rs4
     | lst xs =>
      simp only [e5] at p3
      cases di with
      | int j =>
       dsimp only at p3
       cases e4 : ixN xs.length j with
       | none => simp only [e4] at p3; exact p3.elim
       | some kk =>
        simp only [e4] at p3
        obtain ⟨ho3, vs', hH', hz', ra'⟩ := rs3.cs.cell n ca _ hc3 e5
        refine .inl ⟨ca, vs', j, kk, rfl, ri.intV, hH', by rw [ra'.length]; exact e4, ?_⟩
        obtain ⟨s4, rs4⟩ := a75 (d := d) (w := v) rs3 ho3 hc3 (RepAll.set rd3 kk ra') (by rw [List.length_set]; exact hz')
        exact p3 σ o3 c3 _ s4.weak nt3 rs4
      | _ => exact p3.elim

def C1 (o : Gh) (a : Addr) (n : Nat) : Gh := fun b => if b = a then some (.cell n) else o b
def b5G : T → Option Ce
 | .own xs => some (.lst xs)
 | .ownd q kvs => some (.dct q kvs)
 | _ => none
theorem b40 {K : PySem.W.Frag} {v0 : V} {t0 : T} {k0 : Ce} (rs1 : RS K o1 c1 ρ S1 σ H1) (r0 : RepT K o1 c1 H1 .tmp v0 t0) (hk : b5G t0 = some k0) :
  ∃ a, v0 = .ref a ∧ o1 a = some .tmp ∧ RS K (C1 (unT o1) a S1.length) (c1 ++ [a]) ρ (S1 ++ [k0]) σ H1 := by
 have hex : ∃ a, v0 = .ref a ∧ o1 a = some .tmp ∧ (∃ u, H1 a = some u ∧ C0 u) ∧ ∀ o2, o2 a = some (.cell S1.length) → Kept o1 H1 o2 H1 → CellR K o2 H1 S1.length a k0 := by
  cases t0 with
  | own xs =>
   cases hk
   obtain ⟨a, vs, e, ho, hH, hz, ra⟩ := r0
   exact ⟨a, e, ho, ⟨_, hH, trivial⟩, fun o2 h2 kp => ⟨h2, vs, hH, hz, ra.kept rs1.cs.trk kp⟩⟩
  | ownd q kvs =>
   cases hk
   obtain ⟨a, ks, vs, ds, e, ho, hd, hz, hl, ra, e2⟩ := r0
   refine ⟨a, e, ho, ?_, fun o2 h2 kp => ⟨h2, ks, vs, ds, hd, hz, hl, ra.kept rs1.cs.trk kp, e2⟩⟩
   cases q with
   | false =>
    obtain ⟨es, h, _⟩ := hd
    exact ⟨_, h, trivial⟩
   | true =>
    obtain ⟨es, xs, ⟨_, h⟩, _⟩ := hd
    exact ⟨_, h, trivial⟩
  | _ => cases hk
 obtain ⟨a, ev, ho, hu, hC⟩ := hex
 refine ⟨a, ev, ho, ?_⟩
 have rs2 := rs1.untmp
 have tr2 : Trk (C1 (unT o1) a S1.length) H1 := fun b hb => by
  by_cases z : b = a
  ·subst z; exact hu
  ·exact rs2.cs.trk b (by unfold C1 at hb; rw [if_neg z] at hb; exact hb)
 -- what is data does not have the list at a: it was owned
 have kp : Kept o1 H1 (C1 (unT o1) a S1.length) H1 := fun b u e n => ⟨e, by
  unfold C1
  rw [if_neg (fun z => by rw [z, ho] at n; cases n)]
  exact l9 n⟩
 have kpR : ∀ {w : Ow} {v' : V} {t' : T}, (∀ b, o1 b = some w → b ≠ a ∧ a8Q w = false) → RepT K o1 c1 H1 w v' t' → RepT K (C1 (unT o1) a S1.length) (c1 ++ [a]) H1 w v' t' := by
  intro w v' t' hw r
  have cw : ∀ b, o1 b = some w → C1 (unT o1) a S1.length b = some w := fun b e => by
   unfold C1
   rw [if_neg (hw b e).1]
   exact d4 e (hw b e).2
  cases t' with
  | val d => exact Rep.kept rs1.cs.trk kp r
  | own xs =>
   obtain ⟨x, vs, e, q, h, z, ra⟩ := r
   exact ⟨x, vs, e, cw _ q, h, z, ra.kept rs1.cs.trk kp⟩
  | own2 xss =>
   obtain ⟨x, as, e, q, h, nd, z, le, f⟩ := r
   refine ⟨x, as, e, cw _ q, h, nd, z, le, fun i b xs e1 e2 => ?_⟩
   obtain ⟨q', vs, h', z', ra⟩ := f i b xs e1 e2
   exact ⟨cw _ q', vs, h', z', ra.kept rs1.cs.trk kp⟩
  | ownd tk kvs =>
   obtain ⟨x, ks, vs, ds, e, q, h, z, z2, ra, e'⟩ := r
   exact ⟨x, ks, vs, ds, e, cw _ q, h, z, z2, ra.kept rs1.cs.trk kp, e'⟩
  | cel n =>
   obtain ⟨x, e, q⟩ := r
   exact ⟨x, by rw [List.getElem?_append_left (List.getElem?_eq_some_iff.mp e).1]; exact e, q⟩
  | scr ns =>
   obtain ⟨x, e, z, h⟩ := r
   refine ⟨x, e, z, ?_⟩
   rcases h with h | ⟨h, n⟩ | h
   ·exact .inl h
   ·exact .inr (.inl ⟨h, (kp x _ h n).2⟩)
   ·exact .inr (.inr h)
  | exn _ _ _ _ => exact r
  | tree d =>
   obtain ⟨as, r, nd⟩ := r
   exact ⟨as, r.move (fun x u e q => ⟨e, cw _ q⟩) (fun b us z => SqT.kept rs1.cs.trk kp z), nd⟩
  | rof b u =>
   obtain ⟨x, fv, e, q, h1, h2, h3⟩ := r
   have cq : ∀ b, o1 b = some .seen → C1 (unT o1) a S1.length b = some .seen := fun b e => by
    unfold C1
    rw [if_neg (fun z => by rw [z, ho] at e; cases e)]
    exact d4 e rfl
   exact ⟨x, fv, e, cq _ q, h1, h2, h3.moved rs1.cs.trk kp cq⟩
  | recs b ns => exact RcsR.move (fun x u e q => ⟨e, cw _ q⟩) kp (fun n x e => by rw [List.getElem?_append_left (List.getElem?_eq_some_iff.mp e).1]; exact e) r
 have cs3 : CS K (C1 (unT o1) a S1.length) (c1 ++ [a]) (S1 ++ [k0]) H1 := by
  refine ⟨by rw [List.length_append, List.length_append, rs1.cs.clen]; rfl, fun n b k e1 e2 => ?_, tr2⟩
  by_cases hl : n < S1.length
  ·rw [List.getElem?_append_left (by rw [rs1.cs.clen]; exact hl)] at e1
   rw [List.getElem?_append_left hl] at e2
   exact (rs1.cs.cell n b k e1 e2).kept rs1.cs.trk kp fun b q1 => ⟨by
    unfold C1
    rw [if_neg (fun z => by rw [z, ho] at q1; cases q1)]
    exact d4 q1 rfl, fun u hu => hu⟩
  ·have hn : n = S1.length := by
    have := (List.getElem?_eq_some_iff.mp e2).1
    rw [List.length_append] at this
    simp at this
    omega
   subst hn
   rw [List.getElem?_append_right (by rw [rs1.cs.clen]; exact Nat.le_refl _), rs1.cs.clen, Nat.sub_self] at e1
   rw [List.getElem?_append_right (Nat.le_refl _), Nat.sub_self] at e2
   simp only [List.getElem?_cons_zero, Option.some.injEq] at e1 e2
   subst e1 e2
   exact hC _ (by unfold C1; rw [if_pos rfl]) kp
 exact ⟨rs1.len, fun j t' e => by
  obtain ⟨v', e1, r'⟩ := rs1.slot j t' e
  exact ⟨v', e1, kpR (w := .slot j) (fun b hb => ⟨(fun z => by rw [z, ho] at hb; cases hb), rfl⟩) r'⟩, cs3⟩
def b6m (f : SE) : SE := fun ρ S => match f ρ S with
 | .ok t S1 => (match b5G t with | some k => .ok (.cel S1.length) (S1 ++ [k]) | none => .bad)
 | .exc e S1 => .exc e S1
 | .bad => .bad
theorem b6h (h : EV G e f) : EV G e (b6m f) := by
 obtain ⟨t, pp, q⟩ := h
 refine ⟨t, pp, fun W σ H ρ S o c Q nt rs p => ?_⟩
 refine q W σ H ρ S o c Q nt rs ?_
 unfold b6m at p
 cases e1 : f ρ S with
 | bad => rw [e1] at p; exact p
 | exc e' S' => rw [e1] at p; exact p
 | ok t0 S1 =>
  rw [e1] at p
  cases ek : b5G t0 with
  | none => simp only [ek] at p; exact p.elim
  | some k0 =>
   simp only [ek] at p
   intro v o' c' H' s rs' r'
   obtain ⟨a, rfl, ho, rsP⟩ := b40 rs' r' ek
   refine p (.ref a) (C1 (unT o') a S1.length) (c' ++ [a]) H' ⟨s.keep, fun b w e n => ?_, fun b e n => ?_, s.pre.trans ⟨[a], rfl⟩⟩ rsP ⟨a, ?_, rfl⟩
   ·have h := s.own b w e n
    unfold C1
    rw [if_neg (fun z => by rw [z, ho] at h; cases h; exact nt b e)]
    exact d4 h (by cases w <;> first | rfl | exact absurd e (nt b))
   ·by_cases z : b = a
    ·rw [z] at e ⊢
     exact s.new a e (by rw [ho]; simp)
    ·unfold C1 at n
     rw [if_neg z] at n
     exact s.new b e (L4 n)
   ·rw [← rs'.cs.clen, List.getElem?_append_right (Nat.le_refl _), Nat.sub_self]
    rfl
def b5k (i : Nat) (f : SE) : SS := s8 i (b6m f)
theorem b3J (i : Nat) {pos' : Pos} (h : EV G e f) (hN : G.N[i]? = some x := by rfl) (hx : Loc G.sc x := by first | exact Or.inl rfl | exact Or.inr rfl) (nd : G.N.Nodup := by (try dsimp only [Cc.blk]); decide +kernel)
  (hs : ∀ env : PySem.Env, env.scope = G.sc → swapsWith e (some (.Name x pos')) pos.line env = pure false := by intro _ _; rfl) (hf : G.fn x = true ∨ G.sc.names.lookup x = some .local := by first | exact Or.inl rfl | exact Or.inr rfl) : SV G (.Assign [.Name x pos'] e pos) (b5k i f) :=
 i6 i (b6h h) hN hx nd hs hf
def b7h (i : Nat) (g : Int → Int → Int) (f : SE) : SS := fun ρ S => match ρ[i]? with
 | some (some (.val (.int a))) => sD f (fun d ρ S => match d with | .int b => .nx (ρ.set i (some (.val (.int (g a b))))) S | _ => .bad) ρ S
 | _ => .bad
theorem b4P (i : Nat) {pos' : Pos} {op : Operator} {g : Int → Int → Int} (ho : ∀ X, PIp X op (ipI g)) (h : UV G e f) (hN : G.N[i]? = some x := by rfl) (hx : Loc G.sc x := by first | exact Or.inl rfl | exact Or.inr rfl) (nd : G.N.Nodup := by (try dsimp only [Cc.blk]); decide +kernel)
  (hf : G.fn x = true ∨ G.sc.names.lookup x = some .local := by first | exact Or.inl rfl | exact Or.inr rfl) : SV G (.AugAssign (.Name x pos') op e pos) (b7h i g f) := by
 obtain ⟨t, p, q⟩ := h
 refine ⟨fun W => tAug i (t W) (ipI g), fun X W k => ps_aug (k.nd nd) (k.at hN) (k.loc hx) (p X W k) (ho X) (k.hf hf), fun W σ H ρ S o c D nt rs ps => ?_⟩
 unfold b7h at ps
 split at ps
 ·rename_i a e1
  obtain ⟨v, ev, r⟩ := rs.slot i _ e1
  refine ⟨v, ev, (q W).s nt rs ps fun d S1 w o1 c1 H1 s1 nt1 rs1 r1 p1 => ?_⟩
  cases d with
  | int b => exact ⟨a, b, (show Rep G.K o H v (.int a) from r).intV, r1.intV, p1 _ o1 c1 H1 Step.refl nt1 (rs1.putV (.int _))⟩
  | _ => exact p1.elim
 ·exact ps.elim
theorem b6I (i : Nat) {pos' : Pos} (h : UV G e f) (hN : G.N[i]? = some x := by rfl) (hx : Loc G.sc x := by first | exact Or.inl rfl | exact Or.inr rfl) (nd : G.N.Nodup := by (try dsimp only [Cc.blk]); decide +kernel)
  (hf : G.fn x = true ∨ G.sc.names.lookup x = some .local := by first | exact Or.inl rfl | exact Or.inr rfl) : SV G (.AugAssign (.Name x pos') .Add e pos) (b7h i (fun a b => a + b) f) := b4P i (fun X => ip_add) h hN hx nd hf
end
end BV
namespace BV
open PySem L2

theorem a59 {α : Type} : ∀ {as : List α} {k j : Nat} {b : α}, as.Nodup → as[k]? = some b → as[j]? = some b → k = j
 | [], _, _, _, _, e, _ => by simp at e
 | a :: as, 0, 0, _, _, _, _ => rfl
 | a :: as, 0, j + 1, b, n, e1, e2 => by
  simp at e1 e2
  subst e1
  exact absurd (List.mem_of_getElem? e2) (List.nodup_cons.mp n).1
 | a :: as, k + 1, 0, b, n, e1, e2 => by
  simp at e1 e2
  subst e2
  exact absurd (List.mem_of_getElem? e1) (List.nodup_cons.mp n).1
 | a :: as, k + 1, j + 1, b, n, e1, e2 => by
  have := a59 (k := k) (j := j) (b := b) (List.nodup_cons.mp n).2 (by simpa using e1) (by simpa using e2)
  rw [this]

section
variable {G : Cc} {W : WX} {o o1 o2 : Gh} {c c1 c2 : Cs} {ρ : En} {σ : L2.St} {H H1 H2 : Hp} {S S1 : Sto} {pos p : Pos} {a b e : Expr} {f f1 f2 f3 : SE} {t : T} {v : V} {i : Nat} {x : Str} {xp tp up : Pos}
theorem b1u {K : PySem.W.Frag} {xss : List (List BV.D)} {j : Nat} {xs : List BV.D} (rs : RS K o c ρ S σ H) (e : ρ[i]? = some (some (.own2 xss))) (hx : xss[j]? = some xs) :
  ∃ (a : Addr) (as : List Addr) (b : Addr) (vs : List V), σ[i]? = some (some (.ref a)) ∧ H a = some (.lst (as.map V.ref)) ∧ as.length = xss.length ∧ as[j]? = some b ∧ o b = some (.slot i) ∧ H b = some (.lst vs) ∧ vs.length ≤ sizeLine ∧ RepAll K o H vs xs ∧
   ∀ vs' xs', vs'.length ≤ sizeLine → RepAll K o H vs' xs' → Step A0 o c H o c (upd H b (.lst vs')) ∧ RS K o c (ρ.set i (some (.own2 (xss.set j xs')))) S σ (upd H b (.lst vs')) := by
 obtain ⟨v, ev, a, as, rfl, q, h, nd, z, le, f⟩ := rs.slot i _ e
 have hj : j < as.length := by rw [le]; exact (List.getElem?_eq_some_iff.mp hx).1
 have hb : as[j]? = some as[j] := List.getElem?_eq_getElem hj
 obtain ⟨qb, vs, hv, zv, rv⟩ := f j _ xs hb hx
 refine ⟨a, as, as[j], vs, ev, h, le, hb, qb, hv, zv, rv, fun vs' xs' z' r' => ?_⟩
 have nda : a ∉ as := (List.nodup_cons.mp nd).1
 have nds : as.Nodup := (List.nodup_cons.mp nd).2
 have ne : a ≠ as[j] := fun z => nda (by rw [z]; exact List.getElem_mem hj)
 have kw : Kept o H o (upd H as[j] (.lst vs')) := m3 (by rw [qb]; simp)
 refine ⟨U7 qb, rs.change qb trivial ev ⟨a, as, rfl, q, by rw [upd_ne ne]; exact h, nd, z, by rw [List.length_set]; exact le, fun k b' xs'' e1 e2 => ?_⟩⟩
 by_cases hk : k = j
 ·subst hk
  rw [hb] at e1
  cases e1
  rw [List.getElem?_set_self (by rw [← le]; exact hj)] at e2
  cases e2
  exact ⟨qb, vs', upd_same, z', r'.kept rs.cs.trk kw⟩
 ·rw [List.getElem?_set_ne (Ne.symm hk)] at e2
  obtain ⟨q1, ws, h1, z1, r1⟩ := f k b' xs'' e1 e2
  have hk2 := (List.getElem?_eq_some_iff.mp e1)
  obtain ⟨hkl, hke⟩ := hk2
  refine ⟨q1, ws, ?_, z1, r1.kept rs.cs.trk kw⟩
  rw [upd_ne (fun z => hk (a59 nds e1 (by rw [z]; exact hb)))]
  exact h1

theorem b0w {K : PySem.W.Frag} {xss : List (List BV.D)} {j : Int} {xs : List BV.D} (rs : RS K o c ρ S σ H) (e : ρ[i]? = some (some (.own2 xss))) (hx : atI xss j = some xs) :
  ∃ (a : Addr) (as : List Addr) (b : Addr) (vs : List V) (k : Nat), σ[i]? = some (some (.ref a)) ∧ H a = some (.lst (as.map V.ref)) ∧ atI (as.map V.ref) j = some (.ref b) ∧ ixN xss.length j = some k ∧ xss[k]? = some xs ∧ as[k]? = some b ∧ o b = some (.slot i) ∧ H b = some (.lst vs) ∧ vs.length ≤ sizeLine ∧ RepAll K o H vs xs ∧
   ∀ vs' xs', vs'.length ≤ sizeLine → RepAll K o H vs' xs' → Step A0 o c H o c (upd H b (.lst vs')) ∧ RS K o c (ρ.set i (some (.own2 (xss.set k xs')))) S σ (upd H b (.lst vs')) := by
 unfold L2.atI at hx
 cases hn : ixN xss.length j with
 | none => rw [hn] at hx; cases hx
 | some k =>
  rw [hn] at hx
  obtain ⟨a, as, b, vs, h1, h2, h3, h4, h5, h6, h7, h8, h9⟩ := b1u rs e hx
  refine ⟨a, as, b, vs, k, h1, h2, ?_, rfl, hx, h4, h5, h6, h7, h8, h9⟩
  unfold L2.atI
  rw [List.length_map, h3, hn]
  simp [h4]
theorem b0W {α : Type} {xs : List α} {j : Int} {k : Nat} {y : α} (h : ixN xs.length j = some k) (h' : xs[k]? = some y) : atI xs j = some y := by
 unfold L2.atI
 rw [h]
 exact h'
end
end BV
namespace BV
open PySem L2

def a88 (b : BT1) (tt : SB) (elt : SE) (ρ : En) : List D → Sto → R (List (List D))
 | [], S => .ok [] S
 | d :: ds, S => match b d ρ with
  | none => .bad
  | some ρ1 => match tt ρ1 S with
   | .ok true S1 => (match elt ρ1 S1 with
    | .ok (.own x) S2 => R.l (a88 b tt elt ρ ds S2) fun xs S3 => .ok (x :: xs) S3
    | _ => .bad)
   | .ok false S1 => a88 b tt elt ρ ds S1
   | _ => .bad
def b6O (src : SI) (b : BT1) (tt : SB) (elt : SE) (vs : List Nat) : SE := fun ρ S => R.l (src ρ S) fun ds S1 => R.l (a88 b tt elt (q8 ρ vs) ds S1) fun xs S2 => .ok (.own2 xs) S2
def Rows (K : PySem.W.Frag) (o : Gh) (H : Hp) (w : Ow) (as : List Addr) (yss : List (List D)) : Prop :=
 as.length = yss.length ∧ ∀ (i : Nat) (b : Addr) (xs : List D), as[i]? = some b → yss[i]? = some xs → o b = some w ∧ ∃ vs, H b = some (.lst vs) ∧ vs.length ≤ sizeLine ∧ RepAll K o H vs xs
theorem Rows.step {K : PySem.W.Frag} {o o1 : Gh} {c c1 : Cs} {H H1 : Hp} {w : Ow} {as : List Addr} {yss : List (List D)} {vol : Ow → Prop} (tr : Trk o H) (s : Step vol o c H o1 c1 H1) (hw : ¬ vol w) (r : Rows K o H w as yss) : Rows K o1 H1 w as yss :=
 ⟨r.1, fun i b xs e1 e2 => by
  obtain ⟨q, vs, h, z, ra⟩ := r.2 i b xs e1 e2
  exact ⟨s.own _ _ q hw, vs, s.keep b _ h (fun w' hw' => by rw [q] at hw'; cases hw'; exact hw), z, ra.step tr s⟩⟩
theorem Rows.of {K : PySem.W.Frag} {o : Gh} {H : Hp} {w : Ow} {as : List Addr} {yss : List (List D)} (r : Rows K o H w as yss) : ∀ b ∈ as, o b = some w := fun b hb => by
 obtain ⟨i, hi, e⟩ := List.mem_iff_getElem.mp hb
 have e1 : as[i]? = some b := by rw [List.getElem?_eq_getElem hi, e]
 have hy : i < yss.length := by rw [← r.1]; exact hi
 exact (r.2 i b _ e1 (List.getElem?_eq_getElem hy)).1
def a0i (o : Gh) (a : Addr) : Gh := fun b => if b = a then some .prot else o b
def a2K (o : Gh) (as : List Addr) : Gh := fun b => if b ∈ as then some .tmp else o b
section
variable {G : Cc} {W : WX} {o o1 o2 : Gh} {c c1 c2 : Cs} {ρ : En} {σ : L2.St} {H H1 H2 : Hp} {S S1 : Sto} {pos p : Pos} {a b e tg : Expr} {f f1 f2 f3 : SE} {t : T} {v : V} {i : Nat} {x : Str} {xp tp up : Pos}
theorem b7H {L vs : List Nat} {src : SI} {b : BT1} {tt : SB} {elt : SE} {wi : TI} {g : TG} {tT : TT} {tE : TE} {scope : Scope} (hi : IR c9 G W wi src) (hg : GR G.K L g b) (hL : ∀ j ∈ L, j ∈ vs)
  (ht : TR (G.blk scope) (fun _ _ _ _ => False) tT tt) (he : ER (G.blk scope) (fun _ _ _ _ => False) tE elt) : ER G W (tLc wi g tT tE vs) (b6O src b tt elt vs) := by
 intro σ H ρ S o c Q nt rs ps
 refine hi σ H ρ S o c _ nt rs ?_
 unfold b6O at ps
 cases e : src ρ S with
 | bad => rw [e] at ps; exact ps.elim
 | exc e' S' => rw [e] at ps; exact ps
 | ok ds S1 =>
  rw [e] at ps
  intro J o1 c1 H1 s1 nt1 rs1 it D hD
  have ps1 : PostE G W o1 c1 ρ σ H1 (R.l (a88 b tt elt (q8 ρ vs) ds S1) fun xs S2 => .ok (.own2 xs) S2) Q := PostE.step s1 ps
  refine ⟨fun i m H => m = ds.length - i ∧ i ≤ ds.length ∧ ∃ S o c as yss, Step c9 o1 c1 H1 o c H ∧ NT o ∧ o D = some .prot ∧ CS G.K o c S H ∧ H D = some (.lst (as.map V.ref)) ∧ (D :: as).Nodup ∧ (∀ b ∈ as, ∀ w, o1 b = some w → c9 w) ∧ Rows G.K o H .prot as yss ∧ as.length ≤ i ∧
   PostE G W o1 c1 ρ σ H1 (R.l (a88 b tt elt (q8 ρ vs) (ds.drop i) S) fun xs S2 => .ok (.own2 (yss ++ xs)) S2) Q,
   ⟨ds.length, by simp, Nat.zero_le _, S1, mkO o1 D .prot, c1, [], [], Step.laidO rs1.cs.trk hD, ?_, p9, rs1.cs.laidO hD trivial, upd_same, by simp, by simp, ⟨rfl, fun i b xs e => by simp at e⟩, Nat.le_refl _, by rw [List.drop_zero]; exact ps1⟩, ?_⟩
  ·intro a z
   by_cases q : a = D
   ·subst q; rw [p9] at z; cases z
   ·rw [w6 q] at z; exact nt1 a z
  rintro i m H2 ⟨rfl, hi2, S2, o2, c2, as, yss, s2, nt2, hp2, cs2, hD2, nd2, nw2, ra2, la2, p2⟩
  obtain ⟨stop, go⟩ := it.2 o2 c2 H2 s2 cs2.trk i
  by_cases hlt : i < ds.length
  ·obtain ⟨gg1, gg2⟩ := go ds[i] (List.getElem?_eq_getElem hlt)
   rw [List.drop_eq_getElem_cons hlt] at p2
   refine .inr ⟨gg1, fun H => ∃ S o c as yss, Step c9 o1 c1 H1 o c H ∧ NT o ∧ o D = some .prot ∧ CS G.K o c S H ∧ H D = some (.lst (as.map V.ref)) ∧ (D :: as).Nodup ∧ (∀ b ∈ as, ∀ w, o1 b = some w → c9 w) ∧ Rows G.K o H .prot as yss ∧ as.length ≤ i + 1 ∧
    PostE G W o1 c1 ρ σ H1 (R.l (a88 b tt elt (q8 ρ vs) (ds.drop (i + 1)) S) fun xs S2 => .ok (.own2 (yss ++ xs)) S2) Q, fun H' q => ⟨ds.length - (i + 1), by omega, rfl, hlt, q⟩, fun x H3 y => ?_⟩
   obtain ⟨gr, rx⟩ := gg2 x H3 y
   have cs3 := a4p cs2 gr
   have s3 : Step c9 o2 c2 H2 o2 c2 H3 := J9 gr
   have rsw : RS G.K o2 c2 (q8 ρ vs) S2 (L2.wipe σ vs) H3 := ((rs1.step (s2.trans s3) cs3)).wipe vs
   unfold a88 at p2
   cases eb : b ds[i] (q8 ρ vs) with
   | none => rw [eb] at p2; exact p2.elim
   | some ρ4 =>
    rw [eb] at p2
    refine hg (L2.wipe σ vs) H3 (q8 ρ vs) ρ4 S2 o2 c2 x ds[i] _ nt2 rsw rx eb fun σ4 rs4 f4 l4 => ?_
    refine ⟨a9R hL l4 f4, ?_⟩
    refine ht σ4 H3 ρ4 S2 o2 c2 _ nt2 rs4 ?_
    have hD3 : H3 D = some (.lst (as.map V.ref)) := gr _ _ hD2
    have np : ∀ w, o2 D = some w → ¬ c9 w := fun w hw => by rw [hp2] at hw; cases hw; exact fun z => z
    have ra3 := ra2.step cs2.trk s3 (vol := c9) (show ¬ c9 Ow.prot from fun z => z)
    cases et : tt ρ4 S2 with
    | bad => simp only [et] at p2; exact p2.elim
    | exc e' S' => simp only [et] at p2; exact p2.elim
    | ok bb S3 =>
     simp only [et] at p2
     intro o5 c5 H5 s5 nt5 rs5
     have hp5 : o5 D = some .prot := s5.own D _ hp2 (fun z => z)
     have hD5 : H5 D = some (.lst (as.map V.ref)) := s5.keep D _ hD3 np
     have sa : Step c9 o1 c1 H1 o5 c5 H5 := (s2.trans s3).trans s5
     have ra5 := ra3.step cs3.trk s5 (vol := c9) (show ¬ c9 Ow.prot from fun z => z)
     cases bb with
     | false =>
      rw [if_neg Bool.false_ne_true]
      exact ⟨S3, o5, c5, as, yss, sa, nt5, hp5, rs5.cs, hD5, nd2, nw2, ra5, Nat.le_succ_of_le la2, p2⟩
     | true =>
      rw [if_pos rfl]
      refine he σ4 H5 ρ4 S3 o5 c5 _ nt5 rs5 ?_
      cases ee : elt ρ4 S3 with
      | bad => simp only [ee] at p2; exact p2.elim
      | exc e' S' => simp only [ee] at p2; exact p2.elim
      | ok t S4 =>
       simp only [ee] at p2
       intro v o6 c6 H6 s6 rs6 r6
       cases t with
       | own xd =>
        obtain ⟨a6, ws, rfl, ho6, hH6, hz6, hr6⟩ := r6
        have np5 : ∀ w, o5 D = some w → ¬ c9 w := fun w hw => by rw [hp5] at hw; cases hw; exact fun z => z
        have hp6 : o6 D = some .prot := s6.own D _ hp5 (fun z => z)
        have hD6 : H6 D = some (.lst (as.map V.ref)) := s6.keep D _ hD5 np5
        have cs6 := rs6.cs
        have ra6 := ra5.step rs5.cs.trk s6 (vol := c9) (show ¬ c9 Ow.prot from fun z => z)
        have sz := sa.trans s6
        have na : a6 ≠ D := fun z => by rw [z, hp6] at ho6; cases ho6
        have nas : a6 ∉ as := fun z => by rw [ra6.of _ z] at ho6; cases ho6
        have n1 : ∀ w, o1 a6 = some w → c9 w := fun w hw => by
         by_cases q : c9 w
         ·exact q
         ·have := sz.own a6 w hw q
          rw [ho6] at this
          cases this
          exact absurd hw (nt1 a6)
        have aD : ∀ b ∈ as, b ≠ D := fun b hb z => (List.nodup_cons.mp nd2).1 (z ▸ hb)
        have pO : ∀ b, b ≠ a6 → a0i (unT o6) a6 b = unT o6 b := fun b hb => by unfold a0i; rw [if_neg hb]
        have pS : a0i (unT o6) a6 a6 = some .prot := by unfold a0i; rw [if_pos rfl]
        have kp : ∀ u, Kept o6 H6 (a0i (unT o6) a6) (upd H6 D u) := fun u b x e n => by
         have h1 : b ≠ a6 := fun z => by rw [z, ho6] at n; cases n
         have h2 : b ≠ D := fun z => by rw [z, hp6] at n; cases n
         exact ⟨by rw [upd_ne h2]; exact e, by rw [pO b h1]; exact l9 n⟩
        have pP : ∀ b w, o6 b = some w → a8Q w = false → a0i (unT o6) a6 b = some w := fun b w e n => by
         have h1 : b ≠ a6 := fun z => by rw [z, ho6] at e; cases e; cases n
         rw [pO b h1]
         exact d4 e n
        have hlen : (as.map V.ref).length < sizeLine := by rw [List.length_map]; exact Nat.lt_of_le_of_lt la2 (Nat.lt_of_lt_of_le hlt it.1)
        have emap : as.map V.ref ++ [V.ref a6] = (as ++ [a6]).map V.ref := by rw [List.map_append]; rfl
        refine ⟨as.map V.ref, hD6, hlen, S4, a0i (unT o6) a6, c6, as ++ [a6], yss ++ [xd], ⟨fun b u e n => ?_, fun b w e n => ?_, fun b e n => ?_, sz.pre⟩, fun b h => ?_, pP D _ hp6 rfl, ?_, by rw [emap]; exact upd_same, ?_, ?_, ⟨by rw [List.length_append, List.length_append, ra6.1]; rfl, fun k b xs e1 e2 => ?_⟩, by rw [List.length_append]; exact Nat.succ_le_succ la2, ?_⟩
        ·rw [upd_ne (ne_of_none e hD)]
         exact sz.keep b u e n
        ·refine pP b w (sz.own b w e n) ?_
         cases w <;> first | rfl | exact absurd e (nt1 b)
        ·by_cases q : b = a6
         ·rw [q]
          rw [q] at e
          exact sz.new a6 e (by rw [ho6]; simp)
         ·rw [pO b q] at n
          exact sz.new b e (L4 n)
        ·by_cases q : b = a6
         ·rw [q, pS] at h; cases h
         ·rw [pO b q] at h
          exact B7 b h
        ·refine cs6.move (kp _) (fun b n e => ⟨pP b _ e rfl, fun u hu => by
          rw [upd_ne (fun z => by rw [z, hp6] at e; cases e)]; exact hu⟩) fun b hb => ?_
         by_cases q : b = D
         ·rw [q]; exact ⟨_, upd_same, trivial⟩
         ·rw [upd_ne q]
          by_cases q2 : b = a6
          ·rw [q2]; exact ⟨_, hH6, trivial⟩
          ·rw [pO b q2] at hb
           exact cs6.trk b (L4 hb)
        ·rw [← List.cons_append]
         refine List.nodup_append.mpr ⟨nd2, by simp, fun u hu w hw => ?_⟩
         simp only [List.mem_singleton] at hw
         subst hw
         rcases List.mem_cons.mp hu with h | h
         ·rw [h]; exact Ne.symm na
         ·exact fun z => nas (z ▸ h)
        ·intro b hb
         rcases List.mem_append.mp hb with h | h
         ·exact nw2 b h
         ·simp only [List.mem_singleton] at h
          rw [h]; exact n1
        ·by_cases hk : k < as.length
         ·rw [List.getElem?_append_left hk] at e1
          rw [List.getElem?_append_left (by rw [← ra6.1]; exact hk)] at e2
          obtain ⟨q1, us, q2, q3, q4⟩ := ra6.2 k b xs e1 e2
          exact ⟨pP b _ q1 rfl, us, by rw [upd_ne (aD b (List.mem_of_getElem? e1))]; exact q2, q3, q4.kept cs6.trk (kp _)⟩
         ·have hk2 : k = as.length := by
           have := (List.getElem?_eq_some_iff.mp e1).1
           rw [List.length_append] at this
           simp at this
           omega
          subst hk2
          rw [List.getElem?_append_right (Nat.le_refl _), Nat.sub_self] at e1
          rw [ra6.1, List.getElem?_append_right (Nat.le_refl _), Nat.sub_self] at e2
          simp only [List.getElem?_cons_zero, Option.some.injEq] at e1 e2
          subst e1 e2
          exact ⟨pS, ws, by rw [upd_ne na]; exact hH6, hz6, hr6.kept cs6.trk (kp _)⟩
        ·have p2 : PostE G W o1 c1 ρ σ H1 (R.l (R.l (a88 b tt elt (q8 ρ vs) (ds.drop (i + 1)) S4) fun xs S3 => .ok (xd :: xs) S3) fun xs S2 => .ok (.own2 (yss ++ xs)) S2) Q := p2
         cases el : a88 b tt elt (q8 ρ vs) (ds.drop (i + 1)) S4 with
         | bad => rw [el] at p2; exact p2
         | exc e' S' => rw [el] at p2; exact p2
         | ok xs S5 =>
          rw [el] at p2
          have p8 : PostE G W o1 c1 ρ σ H1 (.ok (.own2 (yss ++ (xd :: xs))) S5) Q := p2
          show PostE G W o1 c1 ρ σ H1 (.ok (.own2 ((yss ++ [xd]) ++ xs)) S5) Q
          rw [List.append_assoc]
          exact p8
       | _ => exact p2.elim
  ·have ei : i = ds.length := by omega
   subst ei
   rw [List.drop_length] at p2
   refine .inl ⟨stop (Nat.le_refl _), ?_⟩
   have p3 : PostE G W o1 c1 ρ σ H1 (.ok (.own2 yss) S2) Q := by
    have : PostE G W o1 c1 ρ σ H1 (.ok (.own2 (yss ++ [])) S2) Q := p2
    rw [List.append_nil] at this
    exact this
   have nDo : o1 D = none := rs1.cs.trk.new hD
   have tI : ∀ b ∈ D :: as, a2K o2 (D :: as) b = some .tmp := fun b hb => by unfold a2K; rw [if_pos hb]
   have tO : ∀ b, b ∉ D :: as → a2K o2 (D :: as) b = o2 b := fun b hb => by unfold a2K; rw [if_neg hb]
   have pr : ∀ b ∈ D :: as, o2 b = some .prot := fun b hb => by
    rcases List.mem_cons.mp hb with h | h
    ·rw [h]; exact hp2
    ·exact ra2.of b h
   have st : Step c9 o1 c1 H1 (a2K o2 (D :: as)) c2 H2 := ⟨s2.keep, fun a w e n => by
     have : a ∉ D :: as := fun z => by
      rcases List.mem_cons.mp z with h | h
      ·rw [h, nDo] at e; cases e
      ·exact n (nw2 a h w e)
     rw [tO a this]
     exact s2.own a w e n, fun a e n => by
     by_cases z : a ∈ D :: as
     ·exact s2.new a e (by rw [pr a z]; simp)
     ·rw [tO a z] at n
      exact s2.new a e n, s2.pre⟩
   have sup : ∀ a, o2 a = none → a2K o2 (D :: as) a = none := fun a e => by
    have : a ∉ D :: as := fun z => by rw [pr a z] at e; cases e
    rw [tO a this]
    exact e
   have cst : CS G.K (a2K o2 (D :: as)) c2 S2 H2 := cs2.turn sup (fun a n e => by
    have : a ∉ D :: as := fun z => by rw [pr a z] at e; cases e
    rw [tO a this]
    exact e) fun a n e => n (sup a e)
   exact p3 (.ref D) (a2K o2 (D :: as)) c2 H2 st (rs1.step st cst) ⟨D, as, rfl, tI D (List.mem_cons_self ..), hD2, nd2, Nat.le_trans la2 it.1, ra2.1, fun k b xs e1 e2 => by
    obtain ⟨q1, us, q2, q3, q4⟩ := ra2.2 k b xs e1 e2
    exact ⟨tI b (List.mem_cons_of_mem _ (List.mem_of_getElem? e1)), us, q2, q3, q4.kept cs2.trk (Kept.same sup)⟩⟩
theorem b7p {L : List Nat} {iter elt : Expr} {ifs : List Expr} {scope : Scope} {own : List (Str × Nat)} {src : SI} {b : BT1} {tt : SB} {fe : SE} (hi : IV c9 G tg iter src) (hg : GV (G.blk scope) tg L b) (ht : TVs (G.blk scope) ifs tt) (he : EV (G.blk scope) elt fe)
  (hcm : G.hot = none := by rfl) (hb : blkC G.N G.sc scope own = true := by (try dsimp only [Cc.blk]); decide +kernel) (hL : ∀ j ∈ L, j ∈ own.map (·.2) := by decide) (nd : G.N.Nodup := by (try dsimp only [Cc.blk]); decide +kernel) (hs : ∀ (env : PySem.Env) x, foldedSetIterable iter env x = pure x := by intro _ _; rfl) :
  EV G (.ListComp elt [⟨tg, iter, ifs, 0⟩] scope pos) (b6O src b tt fe (own.map (·.2))) := by
 obtain ⟨wi, pi, qi⟩ := hi
 obtain ⟨gg, pg, qg⟩ := hg
 obtain ⟨tT, pt, qt⟩ := ht
 obtain ⟨tE, pe, qe⟩ := he
 refine ⟨fun W => tLc (wi W) gg (tT fun _ _ _ _ => False) (tE fun _ _ _ _ => False) (own.map (·.2)), fun X W k => ?_, fun W => b7H (qi W) qg hL (qt _) (qe _)⟩
 exact pe_lc (k.calm hcm) (k.nd nd) (pi X W k) (blkOk_by (by rw [k.N, k.sc]; exact hb)) (fun s H C cl fp => pg _ _ (k.blk hcm scope s H C cl fp)) (fun s H C cl fp => pt _ _ (k.blk hcm scope s H C cl fp)) (fun s H C cl fp => pe _ _ (k.blk hcm scope s H C cl fp)) (hs _)
end
end BV
namespace BV
open PySem L2

def tyN : D → String
 | .none => "NoneType"
 | .bool _ => "bool"
 | .int _ => "int"
 | .str _ => "str"
 | .list _ => "list"
 | .tuple _ => "tuple"
 | .dict _ => "dict"
def n0 : D → Bool
 | .dict _ => true
 | _ => false
theorem b3M {K : PySem.W.Frag} {o : Gh} {H : Hp} {v : V} {d : D} (r : RepU K o H v d) (nd : n0 d = false) : TyX K H v (.type (tyN d)) := by
 cases d with
 | none => rw [r.nonV]; exact .base .non
 | bool b => rw [r.blV]; exact .base (.bl b)
 | int i => rw [r.intV]; exact .base (.int i)
 | str x => rw [r.strV.1]; exact .base (.str x)
 | list xs =>
  obtain ⟨a, vs, e, h1, _, _, ra⟩ := r.lstV
  rw [e]; exact .base (.lst h1)
 | tuple xs =>
  obtain ⟨a, vs, e, h1, _, ra⟩ := r.tupV
  rw [e]
  rcases h1 with (h | ⟨ob, h⟩) | h
  ·exact .base (.tup h)
  ·exact .fTuple h
  ·obtain ⟨ob, its, n, h1, h2, _⟩ := h
   exact .kTuple h1 h2
 | dict kvs => cases nd
def H7 (ty : String) : D → Option T := fun d => if n0 d then none else (kitB (tyN d) ty).map fun b => .val (.bool b)
section
variable {G : Cc} {W : WX} {o o1 o2 : Gh} {c c1 c2 : Cs} {ρ : En} {σ : L2.St} {H H1 H2 : Hp} {S S1 : Sto} {pos p : Pos} {a b e tg : Expr} {f f1 f2 f3 : SE} {t : T} {v : V} {i : Nat} {x : Str} {xp tp up : Pos}
theorem b2F {T : Str} {ty : String} {q : Pos} (h : UV G e f) (hm : G.mg "isinstance" = none) (ht : G.mg T = none) (hv : bootBuiltins T = some (.type ty)) (hg : G.sc.names.lookup ("isinstance" : Str) = some .globalImplicit := by rfl) (hgT : G.sc.names.lookup T = some .globalImplicit := by rfl)
  (hn : T ≠ "__name__" := by decide) (hdT : (T == ("__debug__" : Str)) = false := by decide)
  (he : ∀ env : PySem.Env, starEach [e, .Name T q] env = (false, eval e env) :: starEach [.Name T q] env := by intro _; rfl) (hpl : ∀ env : PySem.Env, (backTo pos (starEach [.Name T q] env)).any (·.1) = false := by intro _; rfl)
  (he2 : ∀ env : PySem.Env, starEach [.Name T q] env = (false, eval (.Name T q) env) :: starEach [] env := by intro _; rfl) : EV G (.Call (.Name "isinstance" p) [e, .Name T q] [] pos) (cUn (H7 ty) f) := by
 obtain ⟨t, pp, qq⟩ := h
 refine ⟨fun W => tCB (rIsi G.K) (tCons (t W) (tCons (tC (.ty ty)) tNil)), fun X W k => ?_, fun W σ H ρ S o c Q nt rs ps => ?_⟩
 ·have hc := call_isi (X := X)
  rw [k.K] at hc
  exact pe_callB hc (k.gl hg) (k.m hm) (by first | exact boot_isinstance | exact PyProof.Rows.boot_isinstance | rfl) (pa_cons (pp X W k) (pa_cons (pe_bltn (k.gl hgT) (k.m ht) hv rfl hn hdT) pa_nil (he2 _)) (he _)) (by decide) (by decide) (he _) (hpl _)
 ·refine (qq W).d nt rs ps fun d S1 v o1 c1 H1 s1 nt1 rs1 r1 p1 => ?_
  cases nd : n0 d with
  | true => simp only [H7, nd, if_true] at p1; exact p1.elim
  | false =>
   simp only [H7, nd, Bool.false_eq_true, if_false] at p1
   cases e1 : kitB (tyN d) ty with
   | none => simp only [e1, Option.map_none] at p1; exact p1.elim
   | some b =>
    simp only [e1, Option.map_some] at p1
    exact ⟨v, .ty ty, _, _, b, rfl, .ty ty, b3M r1 nd, kit_ty e1, f8 rs1 p1 (.bl b)⟩
end
end BV
namespace BV
open PySem L2

section
variable {G : Cc} {W : WX} {o o1 o2 : Gh} {c c1 c2 : Cs} {ρ : En} {σ : L2.St} {H H1 H2 : Hp} {S S1 : Sto} {pos p : Pos} {a b e tg : Expr} {f f1 f2 f3 : SE} {t : T} {v : V} {i : Nat} {x : Str} {xp tp up : Pos}
def a0t (i : Nat) : SE := fun ρ S => match ρ[i]? with
 | some (some (.scr ns)) => .ok (.val (.int (ns.length : Int))) S
 | _ => .bad
theorem a2q (i : Nat) (hm : G.mg "len" = none) (hN : G.N[i]? = some x := by rfl) (hv : Vis G.sc x := by first | exact Or.inl rfl | exact Or.inr (Or.inl rfl) | exact Or.inr (Or.inr rfl)) (hg : G.sc.names.lookup ("len" : Str) = some .globalImplicit := by rfl)
  (hd : (x == ("__debug__" : Str)) = false := by decide) (hcd : (x == ("__classdict__" : Str)) = false := by decide)
  (he : ∀ env : PySem.Env, starEach [.Name x xp] env = (false, eval (.Name x xp) env) :: starEach [] env := by intro _; rfl) (hpl : ∀ env : PySem.Env, (backTo pos (starEach [] env)).any (·.1) = false := by intro _; rfl) : EV G (.Call (.Name "len" p) [.Name x xp] [] pos) (a0t i) := by
 refine ⟨fun W => tCB (rLen G.K) (tCons (tVar i) tNil), fun X W k => ?_, fun W σ H ρ S o c Q nt rs ps => ?_⟩
 ·have hc := call_len (X := X)
  rw [k.K] at hc
  exact pe_callB hc (k.gl hg) (k.m hm) boot_len (pa_cons (pe_var (pos := xp) (k.at hN) (k.vis hv) hd hcd) pa_nil (he _)) (by decide) (by decide) (he _) (hpl _)
 ·unfold a0t at ps
  split at ps
  ·rename_i ns e
   obtain ⟨v, e1, r⟩ := rs.slot i _ e
   obtain ⟨a, e2, hq⟩ := (show RepT G.K o c H (.slot i) v (.scr ns) from r).scrL
   subst e2
   exact ⟨_, e1, .ref a, ns.length, rfl, .inl ⟨_, hq, by rw [List.length_map]⟩, f8 rs ps (.int _)⟩
  ·exact ps.elim
def a2D (b : BT1) (f : SE) : SS := sE f fun t ρ S => match BV.asD t with
 | some d => (match b d ρ with | some ρ' => .nx ρ' S | none => .bad)
 | none => .bad
theorem Y6 {L : List Nat} {b : BT1} (hg : GV G tg L b) (h : EV G e f)
  (hs : ∀ env : PySem.Env, env.scope = G.sc → swapsWithSole [tg] e pos.line env = pure false := by intro _ _; rfl) (hw : ∀ env : PySem.Env, env.scope = G.sc → swappedStores [tg] e env = pure none := by intro _ _; rfl)
  (h3 : ∀ env : PySem.Env, (assignEach [tg] env).map (·.2) = [assign tg env] := by intro _; rfl) : SV G (.Assign [tg] e pos) (a2D b f) := by
 obtain ⟨t, p, q⟩ := h
 obtain ⟨g, pg, qg⟩ := hg
 refine ⟨fun W => tAsg (t W) g, fun X W k => ps_asg (p X W k) (pg X W k) (hs _ k.sc) (hw _ k.sc) (h3 _), fun W σ H ρ S o c D nt rs ps => ?_⟩
 refine (q W).s nt rs ps fun t S1 v o1 c1 H1 s1 rs1 r1 p1 => ?_
 cases e1 : BV.asD t with
 | none => simp only [e1] at p1; exact p1.elim
 | some d =>
  simp only [e1] at p1
  cases e2 : b d ρ with
  | none => simp only [e2] at p1; exact p1.elim
  | some ρ' =>
   simp only [e2] at p1
   have rd := r1.toD rs1.cs.trk e1
   have st : Step A0 o1 c1 H1 (unT o1) c1 H1 := ⟨fun a u e _ => e, fun a w e n => d4 e (by cases w <;> first | rfl | exact absurd trivial n), fun a e n => absurd (l9 e) n, List.prefix_refl c1⟩
   exact qg σ H1 ρ ρ' S1 (unT o1) c1 v d _ B7 rs1.untmp rd e2 fun σ' rs' _ _ => p1 σ' (unT o1) c1 H1 st B7 rs'
end
section
variable {G : Cc} {pos : Pos}
theorem R7 {x : Str} {i : Int} (hm : ∃ t, G.mg x = some (.int i t)) (hg : G.sc.names.lookup x = some .globalImplicit := by rfl) (hd : (x == ("__debug__" : Str)) = false := by decide) : EV G (.Name x pos) (cC (.int i)) := by
 obtain ⟨t, h⟩ := hm
 exact b34 h hg hd
end
theorem fun_of {K : PySem.W.Frag} {x qual : Str} {st : Stmt} {f : Addr} {fd : FuncData} {kws : List (Str × V)} (F : FunD K x qual (defArgs st) (defBody st) (defScope st) [] kws f fd) : Fun K x qual st f fd := by
 obtain ⟨oc, od, dV, kV, doc, pm, an, cdv, ct, osl, e, l, c, hd, _⟩ := F.ex
 rcases hd with ⟨_, e2⟩ | ⟨e2, _⟩
 ·subst e2
  exact ⟨⟨oc, od, kV, doc, pm, an, cdv, ct, osl, e, l, c⟩, F.kp⟩
 ·exact absurd rfl e2
theorem o7 {P : Program} {w : World} {K : PySem.W.Frag} {mg : Str → Option Value} {base : Heap} {cn : Bool} {k : Nat} {x qual : Str} {st : Stmt} {f : Addr} {fd : FuncData} {N ps : List Str} {g : SS} {sc : Scope} {n : Nat}
  (F : FunD K x qual (defArgs st) (defBody st) (defScope st) [] [] f fd) (hsc : defScope st = sc) (Sc : FnScope N ps sc) (hm : mg x = some (.ref f))
  (hb : ∀ (kV doc pm : Value) (an : Option Addr) (cdv ct : Value) (us : List Value), us.length = ps.length → bindArgs (PySem.W.fnOf x qual (defArgs st) (defBody st) (defScope st) .none kV doc pm an cdv ct) ⟨us, []⟩ = pure (ps.zip us)) (hlen : ps.length ≤ N.length) (hn : ps.length = n) {cod : Option (Addr × Str)}
  (h : SVs ⟨P, w, K, mg, base, N, sc, fun _ => true, k, true, none, cn, true, cod⟩ (defBody st) g) (hco : cod = none ∨ (f = He.fAd K (x, none) ∧ cod = some (He.codeOf K (x, none), qual ++ ".<locals>.")) := by exact Or.inl rfl) : FnD P w K mg base cn (k + 1) x n (fnF N g) := by
 subst hsc
 subst hn
 exact b3F (BV.fun_of F) Sc hm (F.bindsN hb) hlen hco h
theorem b3x {P : Program} {w : World} {K : PySem.W.Frag} {mg : Str → Option Value} {base : Heap} {cn : Bool} {k : Nat} {x qual : Str} {st : Stmt} {f : Addr} {fd : FuncData} {N ps : List Str} {g : SS} {sc : Scope} {n : Nat}
  (F : FunD K x qual (defArgs st) (defBody st) (defScope st) [] [] f fd) (hsc : defScope st = sc) (Sc : FnScope N ps sc) (hlen : ps.length ≤ N.length) (hn : ps.length = n) {cod : Option (Addr × Str)}
  (h : SVs ⟨P, w, K, mg, base, N, sc, fun _ => true, k, true, none, cn, true, cod⟩ (defBody st) g) (hco : cod = none ∨ (f = He.fAd K (x, none) ∧ cod = some (He.codeOf K (x, none), qual ++ ".<locals>.")) := by exact Or.inl rfl) : FnOk P w K mg base (CXg cn P w) (k + 1) f fd ps (spD K mg n (fnF N g)) := by
 subst hsc
 subst hn
 exact b6s (BV.fun_of F) Sc hlen hco h
end BV
namespace BV
open PySem PySem.Spec PyProof.Rows L2

theorem b48 : bootBuiltins "int" = some (.type "int") := by decide +kernel
theorem b10 : bootBuiltins "bool" = some (.type "bool") := by decide +kernel
theorem walk_ofCX {l : PySem.W.OpenLaw} {n k : Nat} {q : Program} {loose : List Str} {XP : (Str → Option Value) → Heap → Prop} {YP : World → Heap → Prop} {d : DefRec} {CX : World → CXT} {x : Str}
  (hn : l.most = some n) (hn2 : n ≤ sizeLine) (hdf : d.params.defaults = []) (hr : Room k callerA)
  (F : ∀ (w : World) (mg : Str → Option Value) (fa : Addr) (h : Heap), YP w h → h.Ns mainGlobals mg → mg d.name = some (.ref fa) →
   ∃ (K : PySem.W.Frag) (fd : FuncData) (sp : Sp), K.In h ∧ (∀ (s : Shared) (u : Value), BindsTo s fd ⟨[u], []⟩ [(x, u)]) ∧
    (∀ (H : Hp) (a : Addr) (ns : List Int), ns.length ≤ n → Only H → SqL K H a (ns.map V.int) → sp [.ref a] H (fun v _ => v = .bl true) fun _ _ _ => False) ∧
    ∀ base : Heap, K.In base → base.Ns mainGlobals mg → FnOk l.prog w K mg base (CX w) k fa fd [x] sp)
  (hCX : ∀ (w : World) (H : Hp) (s : Shared) (e : Value) (s' : Shared), CX w [] H s (fun _ _ _ => False) e s' → False) :
  PySem.W.WalkO q loose XP YP l.row.toRowW d [] (fun f vs => PySem.call f vs) := by
 refine Att.attach_call hn hdf fun w s₀ s₁ mg mb fa o pm cd doc a vs ns G Y ho hd hcd hmg hobj hints hlen hg => ?_
 obtain ⟨K, fd, sp, KX, hb, hsp, hF⟩ := F w mg fa _ Y G.T.g hmg
 exact law_call KX G.T.g G.T.b G.T.builtins G.T.nolimit hg hobj hints (Nat.le_trans hlen hn2) hr hF hb (fun H hO hS => hsp H a ns hlen hO hS) fun H e s' => hCX w H s₁ e s'
theorem cx_no {cn : Bool} {P : Program} (w : World) (H : Hp) (s : Shared) (e : Value) (s' : Shared) (h : CXg cn P w [] H s (fun _ _ _ => False) e s') : False := by
 cases cn <;> exact h.choose_spec.choose_spec.choose_spec.choose_spec.choose_spec.2.2.2.2.2.2.2
theorem law_sp {K : PySem.W.Frag} {mg : Str → Option Value} {f : Fn} {H : Hp} {a : Addr} {ns : List Int} (hl : ns.length ≤ 63) (hS : SqL K H a (ns.map V.int)) (hf : ∃ S, f [.scr ns] [] = .ok (.val (.bool true)) S) : spD K mg 1 f [.ref a] H (fun v _ => v = .bl true) fun _ _ _ => False := by
 obtain ⟨S, e⟩ := hf
 refine ⟨rfl, [.scr ns], [], fun _ => none, [], ⟨rfl, fun i v t e1 e2 => ?_⟩, fun a w h => (nomatch h), ⟨rfl, fun n a k e => (by simp at e), fun a h => absurd rfl h⟩, ?_⟩
 ·cases i with
  | zero =>
   simp only [List.getElem?_cons_zero, Option.some.injEq] at e1 e2
   subst e1 e2
   refine ⟨⟨a, rfl, Nat.le_trans hl (by decide), ?_⟩, rfl⟩
   rcases hS with (h | ⟨ob, h⟩) | h
   ·exact .inr (.inl ⟨h, rfl⟩)
   ·exact .inl ⟨ob, h⟩
   ·exact .inr (.inr h)
  | succ i => simp at e1
 ·rw [e]
  intro v o' c' H' s cs ns' r
  exact (show Rep K o' H' v (.bool true) from r).blV
end BV
namespace BV
open PySem L2

def F0 : List D → Option (List Int)
 | [] => some []
 | .int b :: ds => (F0 ds).map (b :: ·)
 | _ :: _ => none
section
variable {G : Cc}
end
end BV
namespace BV
open PySem L2

def c0b (K : PySem.W.Frag) (Ty : String) (r : V → List V → Hp → VK → Prop) (g : D → List D → Option T) : Prop := ∀ (G : Cc) (W : WX) (o : Gh) (c : Cs) (ρ : En) (S : Sto) (σ : L2.St) (H : Hp) (x : V) (d : D) (vs : List V) (ds : List D) (t : T) (Q : VK), G.K = K → RS K o c ρ S σ H →
 RepU K o H x d → RepUs K o H vs ds → g d ds = some t → PostE G W o c ρ σ H (.ok t S) Q → r x vs H Q
structure MD (G : Cc) (Ty : String) (nm : Str) (g : D → List D → Option T) : Prop where
 ex : ∃ (id : String) (r : V → List V → Hp → VK → Prop), PlainAttrs Ty ∧ Slot Ty nm id ∧ typeOf (.builtin id) = pure (.type "method_descriptor") ∧ (∀ X W, G.Ok X W → MtR X id r) ∧ c0b G.K Ty r g
def a8Y (Ty : String) : D → Bool
 | .str _ => decide (Ty = "str")
 | .list _ => decide (Ty = "list")
 | _ => false
def b1y (Ty : String) (g : D → List D → Option T) (f : SE) (fs : SU) : SE := fun ρ S => R.d (f ρ S) fun d S1 => if a8Y Ty d = true then R.l (fs ρ S1) fun ds S2 => (match g d ds with | some t => .ok t S2 | none => .bad) else .bad
theorem b14 {K : PySem.W.Frag} {o : Gh} {H : Hp} {v : V} {d : D} {Ty : String} (r : RepU K o H v d) (h : a8Y Ty d = true) : tyV K Ty v H := by
 cases d with
 | str x =>
  rw [r.strV.1]
  show Ty = "str"
  exact of_decide_eq_true h
 | list xs =>
  obtain ⟨a, vs, e, h1, _⟩ := r.lstV
  rw [e]
  exact .inl ⟨of_decide_eq_true h, vs, .of h1⟩
 | _ => cases h
section
variable {G : Cc} {W : WX} {pos : Pos} {e : Expr} {es : List Expr} {ob : Expr} {f : SE} {fu : SU} {Ty : String} {nm : Str} {g : D → List D → Option T} {ap cp : Pos}
theorem b3v {t : TE} {ta : TA} {r : V → List V → Hp → VK → Prop} (h : URd G W t f) (ha : UAR G W ta fu) (hm : c0b G.K Ty r g) : ER G W (tBM G.K Ty r t ta) (b1y Ty g f fu) := by
 intro σ H ρ S o c Q nt rs p
 refine h.d nt rs p fun d S1 v o1 c1 H1 s1 nt1 rs1 r1 p1 => ?_
 by_cases hr : a8Y Ty d = true
 ·simp only [if_pos hr] at p1
  refine ⟨b14 r1 hr, ha.d (Q := fun xs H2 => r v xs H2 Q) nt1 rs1 p1 fun ds S2 vs o2 c2 H2 s2 nt2 rs2 r2 p2 => ?_⟩
  cases e : g d ds with
  | none => rw [e] at p2; exact p2.elim
  | some t => rw [e] at p2; exact hm G W o2 c2 ρ S2 σ H2 v d vs ds t Q rfl rs2 (r1.step rs1.cs.trk s2) r2 e p2
 ·simp only [if_neg hr] at p1; exact p1.elim
theorem b30 (L : MD G Ty nm g) (ho : UV G ob f) (ha : UAV G (e :: es) fu)
  (hbase : ∀ env : PySem.Env, attributeBase ob nm env (eval ob env) = eval ob env := by intro _; rfl)
  (hfew : ∀ env : PySem.Env, ((backTo cp (starEach (e :: es) env)).all (fun x => !x.1) && (backToKw cp (keywordEach [] env)).all (fun x => x.1.isSome) && decide ((e :: es).length + ([] : List Keyword).length + (if ([] : List Keyword).isEmpty then 0 else 1) < 30)) = true := by intro _; rfl)
  (hline : (ap.endLine == cp.line) = true := by rfl) (hs : ∀ env : PySem.Env, starEach (e :: es) env = (false, eval e env) :: starEach es env := by intro _; rfl) (hpl : ∀ env : PySem.Env, (backTo cp (starEach es env)).any (·.1) = false := by intro _; rfl) :
  EV G (.Call (.Attribute ob nm ap) (e :: es) [] cp) (b1y Ty g f fu) := by
 obtain ⟨t, pp, q⟩ := ho
 obtain ⟨ta, pa, qa⟩ := ha
 obtain ⟨id, r, pl, sl, ty, hr, hm⟩ := L.ex
 refine ⟨fun W => tBM G.K Ty r (t W) (ta W), fun X W k => ?_, fun W => b3v (q W) (qa W) hm⟩
 have := pe_bm (X := X) pl sl ty (hr X W k) (pp X W k) (pa X W k) (hbase _) (hfew _) hline (hs _) (hpl _)
 rw [k.K] at this
 exact this
def b74 : D → Option T
 | .list xs => some (.own xs.reverse)
 | _ => none
theorem b39 {a : Expr} {f1 : SE} {k0 : Nat} {p1 p2 p3 : Pos} (h : UV G a f1) : EV G (.Subscript a (.Slice none none (some (.UnaryOp .USub (.Constant (.int 1) k0 p1) p2)) p3) pos) (cUn b74 f1) := by
 obtain ⟨t, pp, q⟩ := h
 refine ⟨fun W => tRevL G.K (t W), fun X W k => by have := pe_revL (k := k0) (p1 := p1) (p2 := p2) (p3 := p3) (pos := pos) (pp X W k); rw [k.K] at this; exact this, fun W σ H ρ S o c Q nt rs ps => ?_⟩
 refine (q W).d nt rs ps fun d S1 v o1 c1 H1 s1 nt1 rs1 r1 p1 => ?_
 cases d with
 | list xs =>
  obtain ⟨a, vs, rfl, h1, _, z1, ra⟩ := r1.lstV
  exact ⟨a, vs, rfl, .of h1, fun p n => C6 rs1 p1 n (by rw [List.length_reverse]; exact z1) ra.reverse⟩
 | _ => exact p1.elim
end
end BV
namespace BV
open PySem L2

section
variable {G : Cc} {W : WX} {pos : Pos} {e : Expr} {es : List Expr} {f : SE}
end
end BV
namespace BV
open PySem PySem.Spec PyProof.Rows L2

section
variable {prog : Program} {w : World}
end
section
variable {K : PySem.W.Frag} {o : Gh} {c : Cs} {H : Hp} {a b : Addr} {vs ws : List V} {ds es : List D} {vol : Ow → Prop}
end
section
variable {G : Cc} {pos p tpos : Pos} {e e1 e2 : Expr} {es elts : List Expr} {kk : Nat} {f f1 f2 : SE} {fs : SU} {vol : Ow → Prop}
end
end BV
namespace BV
open PySem L2

section
variable {G : Cc} {W : WX} {o o1 o2 : Gh} {c c1 c2 : Cs} {ρ : En} {σ : L2.St} {H H1 H2 : Hp} {S S1 : Sto} {pos p pos' apos cpos : Pos} {a b e e1 e2 v k : Expr} {es values : List Expr} {keys : List (Option Expr)} {f f1 f2 f3 : SE} {fs : SU} {Q : VK}
def b5j (q : Bool) : SE := fun _ S => .ok (.ownd q []) S
def b3e : TE := fun _ H Q => ∀ p, H p = none → (p == sysModules) = false → Q (.ref p) (upd H p (.ext (tdf 0 p [])))
theorem b1J {X : Cx} {pos : Pos} : PE X (.Dict [] [] pos) b3e := ⟨fun pins s σ H Q I h => by
 refine wpAny_Dict_empty ⟨.ref s.heap.objs.size, _, I.laid (a := s.heap.objs.size) (o := .ext (tdf 0 s.heap.objs.size [])) (t' := s.toks) (fun _ _ q => Heap.get?_push_of_some _ q) (Nat.le_refl _) ?_, rfl, h _ (I.hok.fresh (Nat.le_refl _)) (beq_eq_false_iff_ne.mpr (Ne.symm (Nat.ne_of_lt I.big)))⟩
 exact ⟨⟨_, #[], Heap.get?_push_size _ rfl, ⟨rfl, rfl, rfl⟩, rfl, rfl, List.nodup_nil⟩, ⟨_, Heap.get?_push_size _ rfl⟩, W8⟩⟩
theorem a2F {q : Bool} {u : HO} {D : Addr} {kvs : List (BV.D × BV.D)} (rs : RS G.K o c ρ S σ H) (h : PostE G W o c ρ σ H (.ok (.ownd q kvs) S) Q) (n : H D = none) (ou : C0 u) (r : b60 G.K (mkO o D .tmp) (upd H D u) D q kvs) : Q (.ref D) (upd H D u) := by
 obtain ⟨ks, vs, ds, h1, h2, h3, h4, h5⟩ := r
 exact h (.ref D) (mkO o D .tmp) c _ (Step.laidO rs.cs.trk n) (rs.laidO n ou) ⟨D, ks, vs, ds, rfl, p9, h1, h2, h3, h4, h5⟩
theorem b3S (q : Bool) : EV G (.Dict [] [] pos) (b5j q) := by
 cases q with
 | false =>
  refine ⟨fun _ => tDNewK, fun X W k => pe_dnewK, fun W σ H ρ S o c Q nt rs p D n => ?_⟩
  exact a2F rs p n trivial ⟨[], [], [], ⟨[], upd_same, rfl, rfl⟩, Nat.zero_le _, rfl, .nil, rfl⟩
 | true =>
  refine ⟨fun _ => b3e, fun X W k => b1J, fun W σ H ρ S o c Q nt rs p D n hs => ?_⟩
  exact a2F rs p n trivial ⟨[], [], [], ⟨[], [], ⟨0, upd_same⟩, .nil, hs, rfl, rfl⟩, Nat.zero_le _, rfl, .nil, rfl⟩
end
end BV
namespace BV
open PySem PySem.Spec PyProof.Rows L2

section
variable {X : Cx}
end
section
variable {P : Program} {w : World} {K : PySem.W.Frag} {mg : Str → Option Value} {base : Heap} {CX : CXT}
end

structure b66 (K : PySem.W.Frag) (mg : Str → Option Value) (x : Str) : Prop where
 ex : ∃ C, mg x = some (.ref C) ∧ PySem.W.excIn K C He.veBase "ValueError.__new__" = true ∧ PySem.W.keepIn K (.ref C) = true ∧ PySem.W.subIn K (.ref C) (.type "BaseException") = some true ∧ PySem.W.typeIn K (.ref C) = some (.type "type")
def a0G (x : Str) : SS := fun ρ S => .ex ⟨x, none⟩ ρ S
section
variable {X : Cx}
end
section
variable {G : Cc} {pos p p2 pos' : Pos} {e : Expr} {f : SE} {x m : Str} {j : Nat}
theorem a67 (h : b66 G.K G.mg x) (hcm : G.hot = none := by rfl) (hg : G.sc.names.lookup x = some .globalImplicit := by rfl) (hdb : (x == ("__debug__" : Str)) = false := by decide) : SV G (.Raise (some (.Call (.Name x p) [.Constant (.str m) j p2] [] pos')) none pos) (a0G x) := by
 obtain ⟨C, hm, q, kC, e1, e2⟩ := h.ex
 refine ⟨fun W => fun _ σ H => W (.ref C) none σ H, fun X W k => ?_, fun W σ H ρ S o c D nt rs ps => ?_⟩
 ·exact L2N.ps_raise (k.calm hcm) k.tk.n (L2N.pmk_own PySem.F.excBase_ValueError (by rw [k.K]; exact q) (k.m hm) (by rw [k.K]; exact kC) (raises_own (by rw [k.K]; exact e1) (by rw [k.K]; exact e2)) (k.gl hg) hdb)
 ·exact ps (.ref C) none σ o c H Step.refl nt rs ⟨C, rfl, hm, rfl⟩
end
section
variable {G : Cc} {pos p pos' : Pos} {x fld : Str}
end
end BV
namespace BV
open PySem PySem.Spec PyProof.Rows L2

section
variable {α : Type}
def b3y (le : α → α → Bool) (x : α) : List α → List α
 | [] => [x]
 | y :: r => if le x y then x :: y :: r else y :: b3y le x r
def a5h (le : α → α → Bool) : List α → List α
 | [] => []
 | x :: r => b3y le x (a5h le r)
structure b6T (le : α → α → Bool) : Prop where
 total : ∀ a b, le a b = true ∨ le b a = true
 trans : ∀ a b c, le a b = true → le b c = true → le a c = true
 anti : ∀ a b, le a b = true → le b a = true → a = b
variable {le : α → α → Bool}
theorem a0c (x : α) : ∀ l : List α, (b3y le x l).Perm (x :: l)
 | [] => List.Perm.refl _
 | y :: r => by
  unfold b3y
  split
  ·exact List.Perm.refl _
  ·exact (List.Perm.cons y (a0c x r)).trans (List.Perm.swap x y r)
theorem L8 : ∀ l : List α, (a5h le l).Perm l
 | [] => List.Perm.refl _
 | x :: r => (a0c x _).trans (List.Perm.cons x (L8 r))
theorem a9T (L : b6T le) (x : α) : ∀ l : List α, l.Pairwise (fun a b => le a b = true) → (b3y le x l).Pairwise (fun a b => le a b = true)
 | [], _ => by simp [b3y]
 | y :: r, h => by
  unfold b3y
  have h' := List.pairwise_cons.mp h
  split
  ·rename_i e
   refine List.pairwise_cons.mpr ⟨fun z hz => ?_, h⟩
   rcases List.mem_cons.mp hz with q | q
   ·rw [q]; exact e
   ·exact L.trans _ _ _ e (h'.1 z q)
  ·rename_i e
   have e2 : le y x = true := (L.total x y).resolve_left e
   refine List.pairwise_cons.mpr ⟨fun z hz => ?_, a9T L x r h'.2⟩
   rcases List.mem_cons.mp ((a0c x r).mem_iff.mp hz) with q | q
   ·rw [q]; exact e2
   ·exact h'.1 z q
theorem a68 (L : b6T le) : ∀ l : List α, (a5h le l).Pairwise (fun a b => le a b = true)
 | [] => List.Pairwise.nil
 | x :: r => a9T L x _ (a68 L r)
theorem a9F (L : b6T le) : ∀ {xs ys : List α}, xs.Perm ys → xs.Pairwise (fun a b => le a b = true) → ys.Pairwise (fun a b => le a b = true) → xs = ys
 | [], ys, p, _, _ => (List.nil_perm.mp p).symm
 | x :: xs, [], p, _, _ => by have := p.length_eq; simp at this
 | x :: xs, y :: ys, p, h1, h2 => by
  have h1' := List.pairwise_cons.mp h1
  have h2' := List.pairwise_cons.mp h2
  have e : x = y := by
   have a := p.mem_iff.mp (List.mem_cons_self (a := x))
   have b := p.mem_iff.mpr (List.mem_cons_self (a := y))
   rcases List.mem_cons.mp a with q | q
   ·exact q
   ·rcases List.mem_cons.mp b with r | r
    ·exact r.symm
    ·exact L.anti _ _ (h1'.1 y r) (h2'.1 x q)
  subst e
  rw [a9F L (List.Perm.cons_inv p) h1'.2 h2'.2]
theorem a8l (L : b6T le) {xs ys : List α} (p : ys.Perm xs) (h : ys.Pairwise (fun a b => le a b = true)) : ys = a5h le xs := a9F L (p.trans (L8 xs).symm) h (a68 L xs)
theorem b08 (l : List α) : (a5h le l).length = l.length := (L8 l).length_eq
theorem sortB_mem {l : List α} {x : α} : x ∈ a5h le l ↔ x ∈ l := (L8 l).mem_iff
end
theorem a1A : ∀ {ds : List D} {xs : List Int}, F0 ds = some xs → ds = xs.map PyData.int
 | [], xs, h => by cases h; rfl
 | d :: ds, xs, h => by
  cases d with
  | int x =>
   cases e : F0 ds with
   | none => simp [F0, e] at h
   | some ys =>
    simp [F0, e] at h
    subst h
    rw [a1A e]
    rfl
  | _ => simp [F0] at h
theorem a1k {K : PySem.W.Frag} {o : Gh} {H : Hp} : ∀ {ns : List Int} {vs : List V}, RepAll K o H vs (ns.map PyData.int) → vs = ns.map V.int
 | [], _, h => by cases h; rfl
 | n :: ns, _, h => by
  cases h with
  | cons v d vs ds h1 h2 => rw [h1.intV, a1k h2]; rfl
theorem a5j {α β : Type} : ∀ {xs : List α} {ys : List β}, xs.length = ys.length → (xs.zip ys).map (·.1) = xs
 | [], [], _ => rfl
 | [], _ :: _, h => by cases h
 | _ :: _, [], h => by cases h
 | x :: xs, y :: ys, h => by
  rw [List.zip_cons_cons, List.map_cons, a5j (by simpa using h)]
section
variable {G : Cc}
end
end BV
namespace BV
open PySem PySem.Spec PyProof.Rows L2
open He (ba eqO eqO_ok ga ma)

theorem b32 {K : PySem.W.Frag} {h : Heap} {mg : Str → Option Value} {x : Str} (X : K.In h) (Gn : h.Ns mainGlobals mg) (c1 : (He.Fa.glo x).ok K = true) (c2 : (He.Fa.exc x).ok K = true) : b66 K mg x := ⟨⟨_, He.glo_ok X Gn c1, He.exc_ok c2⟩⟩
def frB (n : Nat) (g : Addr → Option Obj) : PySem.W.Frag := He.frT g (cStatics :: He.asD g n)
abbrev AlB : Type := He.AlT × Bool
def b9O (n : Nat) (fa : List He.Fa) (fn : List He.DefD) (ts : List He.Tab) (ex : List (PySem.W.Frag → Bool)) (g : Addr → Option Obj) : AlB := (He.obsT fa fn ts (frB n g), ex.all fun e => e (frB n g))
def c1a (fn : List He.DefD) (ts : List He.Tab) (w : World) : AlB := (He.valT fn ts w, true)
structure SaysB (fa : List He.Fa) (fn : List He.DefD) (ts : List He.Tab) (ex : List (PySem.W.Frag → Bool)) (w : World) (K : PySem.W.Frag) : Prop where
 t : He.SaysT fa fn ts w K
 more : (ex.all fun e => e K) = true
def b55 (n : Nat) (fa : List He.Fa) (fn : List He.DefD) (ts : List He.Tab) (ex : List (PySem.W.Frag → Bool)) : PySem.W.Hook where
 α := AlB
 obs := fun s => b9O n fa fn ts ex s.heap.get?
 val := fun w => c1a fn ts w
 says := fun w h => ∃ K : PySem.W.Frag, K.In h ∧ SaysB fa fn ts ex w K
 of := fun _ _ e => ⟨_, He.frT_in, ⟨congrArg (fun z : AlB => z.1) e, congrArg (fun z : AlB => z.2) e⟩⟩
 keeps := fun _ _ _ ⟨K, i, c⟩ k => ⟨K, PySem.W.Frag.In.keeps i k, c⟩
theorem b4k {n : Nat} {fa : List He.Fa} {fn : List He.DefD} {ts : List He.Tab} {ex : List (PySem.W.Frag → Bool)} {g : Addr → Option Obj} {s : Shared} (h : ∀ a, g a = s.heap.get? a) : b9O n fa fn ts ex g = (b55 n fa fn ts ex).obs s := by
 have e : g = s.heap.get? := funext h
 rw [e]
 rfl
section
variable {fa : List He.Fa} {fn : List He.DefD} {ts : List He.Tab} {ex : List (PySem.W.Frag → Bool)} {w : World} {K : PySem.W.Frag}
theorem SaysB.fact (c : SaysB fa fn ts ex w K) (i : Nat) {f : He.Fa} (h : fa[i]? = some f := by rfl) : f.ok K = true := c.t.d.fact i h
theorem SaysB.def_ (c : SaysB fa fn ts ex w K) (i : Nat) {d : He.DefD} (h : fn[i]? = some d := by rfl) : ∃ fd, FunD K d.name d.qual d.params d.body d.scope (d.dvs K) (d.kws K) (He.fAd K d.at_) fd := c.t.d.def_ i h
theorem SaysB.more_ (c : SaysB fa fn ts ex w K) (i : Nat) {e : PySem.W.Frag → Bool} (h : ex[i]? = some e := by rfl) : e K = true := List.all_eq_true.mp c.more e (List.mem_of_getElem? h)
end
end BV
namespace BV
open PySem PySem.Spec PyProof.Rows L2
open He (ba eqO eqO_ok ga)

def excAll : List Str := ["NoHoles", "NoCase", "NoName", "NoLayout", "Tight", "Loose", "NoLines", "TooMany", "NoEnd", "NoMold", "NoLine", "NoPaper", "NoText", "NoRow", "NoStep", "CastError"]
def E6 (x : Str) : Bool := decide (x ∈ excAll)
def d6 (x c : Str) : Bool := decide (x = c) || (decide (c = "CastError") || decide (c = "ValueError"))
def b2Z (K : PySem.W.Frag) (p : Addr → Str → Bool) : Bool := excAll.all fun x => eqO (PySem.W.nsIn K mainGlobals x) (some none) || (eqO (PySem.W.nsIn K mainGlobals x) (some (some (.ref (ga K x)))) && p (ga K x) x)
section
variable {K : PySem.W.Frag} {h : Heap} {mg : Str → Option Value}
theorem a9N {p : Addr → Str → Bool} (X : K.In h) (Gn : h.Ns mainGlobals mg) (c : b2Z K p = true) {x : Str} {D : Addr} (hx : E6 x = true) (hm : mg x = some (.ref D)) : PySem.W.nsIn K mainGlobals x = some (some (.ref D)) ∧ p D x = true := by
 have := List.all_eq_true.mp c x (of_decide_eq_true hx)
 rw [Bool.or_eq_true] at this
 rcases this with e | e
 ·have := PySem.W.mg_none_of X Gn (eqO_ok e)
  rw [hm] at this
  cases this
 ·obtain ⟨e1, e2⟩ := ba e
  have e3 := eqO_ok e1
  have := PySem.W.mg_of X Gn e3
  rw [hm] at this
  cases this
  exact ⟨e3, e2⟩
end
structure b8g (K : PySem.W.Frag) (mg : Str → Option Value) (c : Str) : Prop where
 ex : ∃ C, mg c = some (.ref C) ∧ ∀ x D, E6 x = true → mg x = some (.ref D) → PySem.W.nsIn K mainGlobals x = some (some (.ref D)) ∧ PySem.W.exmOne K (.ref D) (.ref C) = some (d6 x c)
def b02 (K : PySem.W.Frag) (c : Str) : Bool := eqO (PySem.W.nsIn K mainGlobals c) (some (some (.ref (ga K c)))) && b2Z K fun D x => decide (PySem.W.exmOne K (.ref D) (.ref (ga K c)) = some (d6 x c))
theorem b3G {K : PySem.W.Frag} {h : Heap} {mg : Str → Option Value} {c : Str} (X : K.In h) (Gn : h.Ns mainGlobals mg) (hc : b02 K c = true) : b8g K mg c := by
 obtain ⟨h1, h2⟩ := ba hc
 refine ⟨ga K c, PySem.W.mg_of X Gn (eqO_ok h1), fun x D hx hm => ?_⟩
 obtain ⟨e1, e2⟩ := a9N X Gn h2 hx hm
 exact ⟨e1, of_decide_eq_true e2⟩
abbrev Cc.suite (G : Cc) (hx : a4f) : Cc := { G with top := false, hot := some hx, raw := false }
abbrev Cc.tr (G : Cc) : Cc := { G with raw := false }
def a4u : Fl → Fl
 | .ex _ _ _ => .bad
 | r => r
def hdl : List (Str × SS) → Exc → En → Sto → Fl
 | [], e, ρ, S => .ex e ρ S
 | (c, g) :: r, e, ρ, S => if d6 e.cls c then a4u (g ρ S) else hdl r e ρ S
def b7Q (g : SS) (hs : List (Str × SS)) : SS := fun ρ S => match g ρ S with
 | .ex e ρ1 S1 => if E6 e.cls then hdl hs e ρ1 S1 else .bad
 | r => r
inductive HV (G : Cc) : List ExceptHandler → List (Str × SS) → Prop
 | nil : HV G [] []
 | cons {c : Str} {np pos' : Pos} {b₀ : Stmt} {suite : List Stmt} {g : SS} {hds : List ExceptHandler} {l : List (Str × SS)} (hE : b8g G.K G.mg c) (hg : G.sc.names.lookup c = some .globalImplicit) (hdb : (c == ("__debug__" : Str)) = false)
   (hs : ∀ hx : a4f, SVs (G.suite hx) (b₀ :: suite) g) (r : HV G hds l) : HV G (.ExceptHandler (some (.Name c np)) none (b₀ :: suite) pos' :: hds) ((c, g) :: l)
theorem c0T {G : Cc} {X : Cx} {W W' : WX} {pn : List (Addr × Obj)} {xe : Value → Shared → Prop} (k : G.Ok X W) (hcm : G.hot = none) (tk : Tk G.cn (X.tr pn xe) W') (po : PassesOwn (model X.prog X.w) X.A X.env xe) : G.tr.Ok (X.tr pn xe) W' :=
 ⟨k.P, k.w, k.K, k.mg, k.base, k.N, k.sc, k.fn, k.calm, k.room, tk, po, k.hd, k.top, fun h e => (by rw [show G.tr.hot = G.hot from rfl, hcm] at e; cases e), fun h => (nomatch h), k.cod⟩
theorem b4J {G : Cc} {X : Cx} {W : WX} {a C : Addr} {oe : Obj} {d : Option Addr} {pn : List (Addr × Obj)} (k : G.Ok X W) (hz : Zc (.ref C) d oe) (hf : ∃ vs, oe.data = .fields vs) : (G.suite ⟨a, C, d⟩).Ok (X.suite a ((a, oe) :: pn)) (fun _ _ _ _ => False) :=
 ⟨k.P, k.w, k.K, k.mg, k.base, k.N, k.sc, k.fn, fun h => (nomatch h), ⟨k.room.dp, k.room.un⟩, b2P, PassesOwn.never, fun h => (nomatch h), fun h => (nomatch h), fun h e => (by
  cases e
  obtain ⟨vs, hv⟩ := hf
  exact ⟨oe, ⟨rfl, vs, hv⟩, List.mem_cons_self, hz, vs, hv⟩), fun h => (nomatch h), k.cod⟩
section
variable {G : Cc} {pos : Pos}
theorem b4A {hds : List ExceptHandler} {l : List (Str × SS)} (h : HV G hds l) : ∃ rs : List (Value × (Addr → Value → Option Addr → TS)), (∀ X W, G.Ok X W → L2N.HdsOk X hds rs ∧ L2.HdsOk X hds rs) ∧ ∀ W D e ρ S σ H o c C d, NT o → RS G.K o c ρ S σ H → E6 e.cls = true → G.mg e.cls = some (.ref C) → b1f G.mg H (.ref C) d e →
  PostS G W o c H (hdl l e ρ S) D → wMany G.K W D rs (.ref C) d σ H := by
 induction h with
 | nil => exact ⟨[], fun _ _ _ => ⟨.nil, .nil⟩, fun W D e ρ S σ H o c C d nt rs hx hm r p => p _ _ σ o c H Step.refl nt rs r⟩
 | @cons c np pos' b₀ suite g hds l hE hg hdb hs r ih =>
  obtain ⟨rs, q1, q2⟩ := ih
  obtain ⟨Cc', hcm, hE'⟩ := hE.ex
  let ts : Addr → Value → Option Addr → TS := fun a cls d => match cls with
   | .ref C => (hs ⟨a, C, d⟩).choose fun _ _ _ _ => False
   | _ => fun _ _ _ => False
  refine ⟨(.ref Cc', ts) :: rs, fun X W k => ?_, fun W D e ρ S σ H o c0 C d nt rs' hx hm r' p => ?_⟩
  ·have su : ∀ (a : Addr) (oe : Obj) (cls : Value) (d : Option Addr) (pn : List (Addr × Obj)), Zc cls d oe → (∃ vs, oe.data = .fields vs) → PSs (X.suite a ((a, oe) :: pn)) (b₀ :: suite) (ts a cls d) := fun a oe cls d pn hz hf => by
    cases cls with
    | ref C => exact (hs ⟨a, C, d⟩).choose_spec.1 _ _ (b4J k hz hf)
    | _ => exact ⟨fun _ _ _ _ _ _ z => z.elim⟩
   exact ⟨.cons ⟨k.gl hg, hdb, .inl (k.m hcm)⟩ (fun a oe cls d pn hz hf => su a oe cls d pn hz.zc hf) (q1 X W k).1, .cons ⟨k.gl hg, hdb, .inl (k.m hcm)⟩ su (q1 X W k).2⟩
  ·refine ⟨d6 e.cls c, (hE' _ _ hx hm).2, fun hb a na => ?_, fun hb => ?_⟩
   ·have p' : PostS G W o c0 H (a4u (g ρ S)) D := by unfold hdl at p; rw [hb] at p; exact p
    refine (hs ⟨a, C, d⟩).choose_spec.2 _ σ H ρ S o c0 D nt rs' ?_
    cases eg : g ρ S with
    | ex _ _ _ => rw [eg] at p'; exact p'.elim
    | nx _ _ => rw [eg] at p'; exact p'
    | bk _ _ => rw [eg] at p'; exact p'
    | ct _ _ => rw [eg] at p'; exact p'
    | rt _ _ => rw [eg] at p'; exact p'
    | bad => rw [eg] at p'; exact p'.elim
   ·have p' : PostS G W o c0 H (hdl l e ρ S) D := by unfold hdl at p; rw [hb] at p; exact p
    exact q2 W D e ρ S σ H o c0 C d nt rs' hx hm r' p'
theorem b7z {body : List Stmt} {h₀ : ExceptHandler} {hds : List ExceptHandler} {g : SS} {l : List (Str × SS)} (hb : SVs G.tr body g) (hh : HV G (h₀ :: hds) l) (hcm : G.hot = none := by rfl) (htop : G.top = true := by rfl) : SV G (.Try body (h₀ :: hds) [] [] pos) (b7Q g l) := by
 obtain ⟨tb, pb, qb⟩ := hb
 obtain ⟨rs, q1, q2⟩ := b4A hh
 refine ⟨fun W D σ H => tb (wMany G.K W D rs) D σ H, fun X W k => ?_, fun W σ H ρ S o c D nt rs' ps => ?_⟩
 ·obtain ⟨t1, t2⟩ := k.top htop
  have hK := k.K
  cases hcn : G.cn with
  | true =>
   have tk : L2N.Takes X W := k.tk.n
   have := L2N.ps_try_many (pos := pos) t1 t2 tk (fun W' pn xe tk po => pb _ _ (c0T k hcm (by rw [hcn]; exact tk) po)) (q1 X W k).1
   rw [hK] at this
   exact this
  | false =>
   have tk : L2.Takes X W := by
    have := k.tk
    rw [hcn] at this
    exact this
   have := L2.ps_try_many (pos := pos) t1 t2 tk (fun W' pn xe tk po => pb _ _ (c0T k hcm (by rw [hcn]; exact tk) po)) (q1 X W k).2
   rw [hK] at this
   exact this
 ·refine qb _ σ H ρ S o c D nt rs' ?_
  unfold b7Q at ps
  cases eg : g ρ S with
  | ex e ρ1 S1 =>
   rw [eg] at ps
   intro cls d σ' o' c' H' s' nt' r' x
   simp only at ps
   by_cases hx : E6 e.cls = true
   ·rw [if_pos hx] at ps
    obtain ⟨C, rfl, hm, rest⟩ := id x
    exact q2 W D e ρ1 S1 σ' H' o' c' C d nt' r' hx hm x (ps.step s')
   ·rw [if_neg hx] at ps
    exact ps.elim
  | nx _ _ => rw [eg] at ps; exact ps
  | bk _ _ => rw [eg] at ps; exact ps
  | ct _ _ => rw [eg] at ps; exact ps
  | rt _ _ => rw [eg] at ps; exact ps
  | bad => rw [eg] at ps; exact ps.elim
end
end BV
namespace BV
open PySem PySem.Spec PyProof.Rows L2

def b7a : List Int → Option Int
 | [] => none
 | x :: xs => some (xs.foldl (fun a b => if b < a then b else a) x)
def b6H : List Int → Option Int
 | [] => none
 | x :: xs => some (xs.foldl (fun a b => if a < b then b else a) x)
theorem a2A : ∀ (xs : List Int) (x : Int), let m := xs.foldl (fun a b => if b < a then b else a) x; (m = x ∨ m ∈ xs) ∧ m ≤ x ∧ ∀ y ∈ xs, m ≤ y
 | [], x => ⟨.inl rfl, Int.le_refl _, fun y h => nomatch h⟩
 | z :: xs, x => by
  have ih := a2A xs (if z < x then z else x)
  simp only [List.foldl_cons]
  generalize xs.foldl (fun a b => if b < a then b else a) (if z < x then z else x) = m at ih
  obtain ⟨h1, h2, h3⟩ := ih
  by_cases q : z < x
  ·rw [if_pos q] at h1 h2
   refine ⟨.inr ?_, by omega, fun y hy => ?_⟩
   ·rcases h1 with e | e
    ·rw [e]; exact List.mem_cons_self ..
    ·exact List.mem_cons_of_mem _ e
   ·rcases List.mem_cons.mp hy with e | e
    ·rw [e]; exact h2
    ·exact h3 y e
  ·rw [if_neg q] at h1 h2
   refine ⟨?_, h2, fun y hy => ?_⟩
   ·rcases h1 with e | e
    ·exact .inl e
    ·exact .inr (List.mem_cons_of_mem _ e)
   ·rcases List.mem_cons.mp hy with e | e
    ·rw [e]; omega
    ·exact h3 y e
theorem a3o : ∀ (xs : List Int) (x : Int), let m := xs.foldl (fun a b => if a < b then b else a) x; (m = x ∨ m ∈ xs) ∧ x ≤ m ∧ ∀ y ∈ xs, y ≤ m
 | [], x => ⟨.inl rfl, Int.le_refl _, fun y h => nomatch h⟩
 | z :: xs, x => by
  have ih := a3o xs (if x < z then z else x)
  simp only [List.foldl_cons]
  generalize xs.foldl (fun a b => if a < b then b else a) (if x < z then z else x) = m at ih
  obtain ⟨h1, h2, h3⟩ := ih
  by_cases q : x < z
  ·rw [if_pos q] at h1 h2
   refine ⟨.inr ?_, by omega, fun y hy => ?_⟩
   ·rcases h1 with e | e
    ·rw [e]; exact List.mem_cons_self ..
    ·exact List.mem_cons_of_mem _ e
   ·rcases List.mem_cons.mp hy with e | e
    ·rw [e]; exact h2
    ·exact h3 y e
  ·rw [if_neg q] at h1 h2
   refine ⟨?_, h2, fun y hy => ?_⟩
   ·rcases h1 with e | e
    ·exact .inl e
    ·exact .inr (List.mem_cons_of_mem _ e)
   ·rcases List.mem_cons.mp hy with e | e
    ·rw [e]; omega
    ·exact h3 y e
theorem a2I {xs : List Int} {m : Int} (h : b7a xs = some m) : m ∈ xs ∧ ∀ y ∈ xs, m ≤ y := by
 cases xs with
 | nil => cases h
 | cons x xs =>
  cases h
  obtain ⟨h1, h2, h3⟩ := a2A xs x
  refine ⟨?_, fun y hy => ?_⟩
  ·rcases h1 with e | e
   ·rw [e]; exact List.mem_cons_self ..
   ·exact List.mem_cons_of_mem _ e
  ·rcases List.mem_cons.mp hy with e | e
   ·rw [e]; exact h2
   ·exact h3 y e
theorem a2B {xs : List Int} {m : Int} (h : b6H xs = some m) : m ∈ xs ∧ ∀ y ∈ xs, y ≤ m := by
 cases xs with
 | nil => cases h
 | cons x xs =>
  cases h
  obtain ⟨h1, h2, h3⟩ := a3o xs x
  refine ⟨?_, fun y hy => ?_⟩
  ·rcases h1 with e | e
   ·rw [e]; exact List.mem_cons_self ..
   ·exact List.mem_cons_of_mem _ e
  ·rcases List.mem_cons.mp hy with e | e
   ·rw [e]; exact h2
   ·exact h3 y e
def b1R : List D → Option T
 | [.list ds] => (F0 ds).bind fun ns => (b7a ns).map fun m => .val (.int m)
 | _ => none
def b15 : List D → Option T
 | [.list ds] => (F0 ds).bind fun ns => (b6H ns).map fun m => .val (.int m)
 | _ => none
section
variable {G : Cc}
theorem b4s (hcm : G.hot = none := by rfl) : BF G "min" b1R := ⟨"min", _, by first | exact boot_min | exact PyProof.Rows.boot_min, fun X W k => by have := cr_min (X := X) (k.calm hcm); rw [k.K] at this; exact this, by
 intro G' W o c ρ S σ H vs ds t Q hK rs r e p
 rw [← hK] at r ⊢
 unfold b1R at e
 split at e
 ·rename_i es
  obtain ⟨v, rfl, r'⟩ := r.one
  cases ei : F0 es with
  | none => rw [ei] at e; cases e
  | some ns =>
   rw [ei, Option.bind_some] at e
   cases em : b7a ns with
   | none => rw [em] at e; cases e
   | some m =>
    rw [em] at e
    cases e
    obtain ⟨a, us, e1, h1, _, z1, ra⟩ := r'.lstV
    subst e1
    rw [a1A ei] at ra
    have eu := a1k ra
    subst eu
    obtain ⟨m1, m2⟩ := a2I em
    refine ⟨a, ns, rfl, .of h1, List.length_pos_iff.mpr (List.ne_nil_of_mem m1), fun m' a1 a2 => ?_⟩
    have : m' = m := by have := a2 m m1; have := m2 m' a1; omega
    rw [this]
    exact f8 (hK ▸ rs) p (.int m)
 ·cases e⟩
theorem b3w (hcm : G.hot = none := by rfl) : BF G "max" b15 := ⟨"max", _, by first | exact boot_max | exact PyProof.Rows.boot_max, fun X W k => by have := cr_max (X := X) (k.calm hcm); rw [k.K] at this; exact this, by
 intro G' W o c ρ S σ H vs ds t Q hK rs r e p
 rw [← hK] at r ⊢
 unfold b15 at e
 split at e
 ·rename_i es
  obtain ⟨v, rfl, r'⟩ := r.one
  cases ei : F0 es with
  | none => rw [ei] at e; cases e
  | some ns =>
   rw [ei, Option.bind_some] at e
   cases em : b6H ns with
   | none => rw [em] at e; cases e
   | some m =>
    rw [em] at e
    cases e
    obtain ⟨a, us, e1, h1, _, z1, ra⟩ := r'.lstV
    subst e1
    rw [a1A ei] at ra
    have eu := a1k ra
    subst eu
    obtain ⟨m1, m2⟩ := a2B em
    refine ⟨a, ns, rfl, .of h1, List.length_pos_iff.mpr (List.ne_nil_of_mem m1), fun m' a1 a2 => ?_⟩
    have : m' = m := by have := a2 m m1; have := m2 m' a1; omega
    rw [this]
    exact f8 (hK ▸ rs) p (.int m)
 ·cases e⟩
end
end BV
namespace BV
open PySem L2

section
variable {K : PySem.W.Frag} {G : Cc} {W : WX} {o o1 : Gh} {c c1 : Cs} {ρ : En} {S : Sto} {σ : L2.St} {H H1 : Hp} {pos : Pos} {a : Addr} {u : HO} {w : Ow} {v : V} {t : T}
end
section
variable {G : Cc} {pos : Pos}
end
end BV
namespace BV
open PySem PySem.Spec PyProof.Rows L2

def b6X (z : Str) (n : Nat) : Str := ⟨((List.replicate n z.cps.toList).flatten).toArray⟩
theorem b1U (z : Str) (n : Nat) : (b6X z n).cps.toList = (List.replicate n z.cps.toList).flatten := rfl
theorem b2i (z : Str) (n : Nat) : (b6X z n).length = z.length * n := by
 show (((List.replicate n z.cps.toList).flatten).toArray).size = z.cps.size * n
 simp [Nat.mul_comm]
end BV
namespace BV
open PySem PySem.Spec PyProof.Rows L2
end BV
namespace BV
open PySem PySem.Spec PyProof.Rows L2
section
variable {G : Cc} {pos : Pos}
end
end BV
namespace BV
open PySem PySem.Spec PyProof.Rows L2
def a9a (i : Nat) (g : Int → Int → Int) (fi fe : SE) : SS := fun ρ S => match ρ[i]? with
 | some (some (.own xs)) => sD fi (fun di ρ S => match di with
  | .int j => (match ixN xs.length j with
   | some k => (match xs[k]? with
    | some (.int a) => sD fe (fun de ρ S => match de with
     | .int b => .nx (ρ.set i (some (.own (xs.set k (.int (g a b)))))) S
     | _ => .bad) ρ S
    | _ => .bad)
   | none => .bad)
  | _ => .bad) ρ S
 | _ => .bad
section
variable {G : Cc} {x : Str} {xp tp pos : Pos} {b e : Expr} {f1 f2 : SE}
theorem b1m {X : Cx} : PGet X (rIxL X.K) := by
 intro pins s σ H x y v u Q I rx ry h
 obtain ⟨p, xs, i, z, rfl, rfl, hq, he, q⟩ := h
 cases rx
 obtain ⟨t, rfl⟩ := ry
 obtain ⟨its, r, pl, hz⟩ := I.list hq
 obtain ⟨j, h1, h2, h3, h4, h5⟩ := atI_get he
 obtain ⟨w, ew, rw'⟩ := r.get h2
 have hl := r.length
 have hn := line63
 have fin : EP X pins σ Q w s := ⟨z, H, I, rw', q⟩
 by_cases h0 : 0 ≤ i
 ·have hj : i.toNat = j := by
   rw [seqIndex_of h0 h5] at h1
   exact Option.some.inj h1
  exact wpAny_getItem_list pl.isList h0 (by omega) (by rw [hj]; simpa using ew) fin
 ·have hj : (i + (its.toArray.size : Int)).toNat = j := by
   rw [seqIndex_neg (by omega) h4] at h1
   rw [List.size_toArray, ← hl]
   exact Option.some.inj h1
  exact wpAny_getItem_list_neg pl.isList (by omega) (by rw [List.size_toArray] <;> omega) (by omega) (by rw [hj]; simpa using ew) fin
theorem b2l (i : Nat) {op : Operator} {g : Int → Int → Int} (ho : ∀ X, PIp X op (ipI g)) (h1 : UV G b f1) (h2 : UV G e f2) (hN : G.N[i]? = some x := by rfl) (hv : Vis G.sc x := by first | exact Or.inl rfl | exact Or.inr (Or.inl rfl) | exact Or.inr (Or.inr rfl)) (hd : (x == ("__debug__" : Str)) = false := by decide) (hcd : (x == ("__classdict__" : Str)) = false := by decide)
  (ha : ∀ ov iv new, augStore b ov iv new = (do holding [new, ov, iv] (setItem ov iv new); release [new, ov, iv] []; pure .next) := by intros; rfl) : SV G (.AugAssign (.Subscript (.Name x xp) b tp) op e pos) (a9a i g f1 f2) := by
 obtain ⟨t1, p1, q1⟩ := h1
 obtain ⟨t2, p2, q2⟩ := h2
 refine ⟨fun W => tAugS (tVar i) (t1 W) (t2 W) (rIxL G.K) (ipI g) (a2R G.K), fun X W k => ?_, fun W σ H ρ S o c D nt rs ps => ?_⟩
 ·have hs := a91 (X := X) (by have := k.units; omega)
  have hg := b1m (X := X)
  rw [k.K] at hs hg
  exact ps_augS (pe_var (pos := xp) (k.at hN) (k.vis hv) hd hcd) (p1 X W k) hg (p2 X W k) (ho X) hs ha
 ·unfold a9a at ps
  split at ps
  ·rename_i xs e2
   obtain ⟨a, vs, ev, hO, hH, hz, ra⟩ := rs.ownAt e2
   refine ⟨_, ev, (q1 W).s nt rs ps fun di S3 iv o3 c3 H3 s3 nt3 rs3 ri p3 => ?_⟩
   obtain ⟨a', vs', ev', ho', hH', hz', ra'⟩ := rs3.ownAt e2
   rw [ev] at ev'
   cases ev'
   cases di with
   | int j =>
    cases e4 : ixN xs.length j with
    | none => simp only [e4] at p3; exact p3.elim
    | some kk =>
     simp only [e4] at p3
     cases e5 : xs[kk]? with
     | none => simp only [e5] at p3; exact p3.elim
     | some d =>
      simp only [e5] at p3
      cases d with
      | int av =>
       simp only at p3
       obtain ⟨w, hw, rw'⟩ := ra'.get e5
       have hwi : w = V.int av := by
        have : Rep G.K o3 H3 w (.int av) := rw'
        cases this
        rfl
       subst hwi
       refine ⟨a, vs', j, V.int av, rfl, ri.intV, .inl (.inl hH'), ?_, ?_⟩
       ·unfold atI
        rw [ra'.length, e4]
        exact hw
       refine (q2 W).s nt3 rs3 p3 fun de S5 y o5 c5 H5 s5 nt5 rs5 r5 p5 => ?_
       obtain ⟨a', vs5, ev', ho5, hH5, hz5, ra5⟩ := rs5.ownAt e2
       rw [ev] at ev'
       cases ev'
       cases de with
       | int bv =>
        refine ⟨av, bv, rfl, r5.intV, ?_⟩
        refine .inl ⟨a, vs5, j, kk, rfl, ri.intV, hH5, by rw [ra5.length]; exact e4, ?_⟩
        obtain ⟨s6, rs6⟩ := W9 (d := .int (g av bv)) (v := V.int (g av bv)) (xs := xs) rs5 ho5 ev (RepAll.set (.int _) kk ra5) (by rw [List.length_set]; exact hz5)
        exact p5 σ o5 c5 _ s6 nt5 rs6
       | _ => exact p5.elim
      | _ => exact p3.elim
   | _ => exact p3.elim
  ·exact ps.elim
theorem b38 (i : Nat) (h1 : UV G b f1) (h2 : UV G e f2) (hN : G.N[i]? = some x := by rfl) (hv : Vis G.sc x := by first | exact Or.inl rfl | exact Or.inr (Or.inl rfl) | exact Or.inr (Or.inr rfl)) (hd : (x == ("__debug__" : Str)) = false := by decide) (hcd : (x == ("__classdict__" : Str)) = false := by decide)
  (ha : ∀ ov iv new, augStore b ov iv new = (do holding [new, ov, iv] (setItem ov iv new); release [new, ov, iv] []; pure .next) := by intros; rfl) : SV G (.AugAssign (.Subscript (.Name x xp) b tp) .Add e pos) (a9a i (fun a b => a + b) f1 f2) := b2l i (fun X => ip_add) h1 h2 hN hv hd hcd ha
end
@[simp] theorem c0A {i : Nat} {g : Int → Int → Int} {fi fe : SE} {ρ : En} {S : Sto} : a9a i g fi fe ρ S = (match ρ[i]? with
 | some (some (.own xs)) => sD fi (fun di ρ S => match di with
  | .int j => (match ixN xs.length j with
   | some k => (match xs[k]? with
    | some (.int a) => sD fe (fun de ρ S => match de with
     | .int b => .nx (ρ.set i (some (.own (xs.set k (.int (g a b)))))) S
     | _ => .bad) ρ S
    | _ => .bad)
   | none => .bad)
  | _ => .bad) ρ S
 | _ => .bad) := rfl
end BV
namespace BV
open PySem PySem.Spec PyProof.Rows L2
section
variable {X : Cx} {pos : Pos} {ke ve : Expr} {kt vt : TE}
theorem b0j {A : Around} {pins : List (Addr × Obj)} {σ : L2.St} {H : Hp} {s : Shared} {a b : Addr} {xs : List (List Int × Addr × Value)} {kvs : List (List Int × V)} {k : List Int} {v : V} {r : Value} {E : Value → Shared → Prop} {Q : Unit → Shared → Prop} (hu : A.units + 1 < cLine) (I : Inv X pins σ H s) (e : HX H a xs) (q : KX X.K H kvs xs) (hl : xs.length ≤ sizeLine) (eb : SqT X.K H b (k.map V.int)) (rv : RelV v r)
  (h : ∀ ep s', Inv X pins σ (upd H a (.ext (tdf ep a (storedH xs k b r)))) s' → Q () s') : wpAny (model X.prog X.w) A (dictSet a (.ref b) r) Q E s := by
 refine wpAny_dictSet_heap (hsz := hl) (show A.units < cLine by omega) (b5u I eb) (dX I e q) fun h' dd' hs => ?_
 obtain ⟨o, es, ep, hq, h2, h3, h4, _, h5⟩ := dd'
 exact h ep _ (d_write I (by obtain ⟨_, e⟩ := e; rw [e]; exact True.intro) hs ⟨o, hq⟩ ⟨⟨o, es, hq, h2, h3, h4, h5⟩, ⟨o, hq⟩, W8⟩)
def b0g (K : PySem.W.Frag) (kt vt : TE) : TE := fun σ H Q => ∀ p, H p = none → (p == sysModules) = false → kt σ (upd H p (.ext (tdf 0 p []))) fun kv H1 => vt σ H1 fun vv H2 => b4r K (.ref p) kv vv H2 fun H3 => Q (.ref p) H3
theorem b0X (hu : X.A.units + 1 < cLine) (hk : PE X ke kt) (hv : PE X ve vt) : PE X (.Dict [some ke] [ve] pos) (b0g X.K kt vt) := by
 refine ⟨fun pins s σ H Q I h => ?_⟩
 have hn := I.hok.fresh (Nat.le_refl s.heap.objs.size)
 have nm : (s.heap.objs.size == sysModules) = false := beq_eq_false_iff_ne.mpr (Ne.symm (Nat.ne_of_lt I.big))
 have I1 := I.laid (a := s.heap.objs.size) (o := .ext (tdf 0 s.heap.objs.size [])) (h' := s.heap.push { cls := .type "dict", data := .dict #[] }) (t' := s.toks) (fun _ _ q => Heap.get?_push_of_some _ q) (Nat.le_refl _) ⟨⟨_, #[], Heap.get?_push_size _ rfl, ⟨rfl, rfl, rfl⟩, rfl, rfl, List.nodup_nil⟩, ⟨_, Heap.get?_push_size _ rfl⟩, W8⟩
 refine wpAny_Dict_any rfl rfl (by simp) (by simp) ?_
 refine pairTrees_cons_walk (thn (hk.run pins _ σ _ _ I1 (h _ hn nm)) fun kv s1 ⟨x1, H1, I2, r1, q1⟩ => thn (hv.run pins s1 σ H1 _ I2 q1) fun vv s2 ⟨x2, H2, I3, r2, q2⟩ => pairTrees_nil_walk ?_)
 obtain ⟨a, kvs, xs, b, k, ea, e, kx, hl, eb, sb, q⟩ := q2
 cases ea
 cases eb
 cases (show kv = Value.ref b from r1)
 show wpAny (model X.prog X.w) X.A (storeAll s.heap.objs.size [(.ref b, vv)]) _ _ _
 unfold storeAll
 rw [List.forIn_cons]
 refine wpAny_bind (wpAny_bind (b0j hu I3 e kx hl sb r2 fun ep s' I' => wpAny_pure ?_))
 show wpAny _ _ (forIn [] _ _) _ _ _
 rw [List.forIn_nil]
 exact wpAny_pure ⟨.ref s.heap.objs.size, _, I', rfl, q ep vv r2⟩
end
def a1M (f1 f2 : SE) : SE := fun ρ S => R.d (f1 ρ S) fun kd S1 => R.d (f2 ρ S1) fun d S2 => match a37 true [] kd d with
 | some kvs => .ok (.ownd true kvs) S2
 | none => .bad
@[simp] theorem b78 {f1 f2 : SE} {ρ : En} {S : Sto} : a1M f1 f2 ρ S = R.d (f1 ρ S) fun kd S1 => R.d (f2 ρ S1) fun d S2 => match a37 true [] kd d with
 | some kvs => .ok (.ownd true kvs) S2
 | none => .bad := rfl
section
variable {G : Cc} {pos : Pos} {ke ve : Expr} {f1 f2 : SE}
theorem b0H (h1 : EV G ke f1) (h2 : EV G ve f2) : EV G (.Dict [some ke] [ve] pos) (a1M f1 f2) := by
 obtain ⟨t1, p1, q1⟩ := h1
 obtain ⟨t2, p2, q2⟩ := h2
 refine ⟨fun W => b0g G.K (t1 W) (t2 W), fun X W k => by have := b0X (pos := pos) (by have := k.units; omega) (p1 X W k) (p2 X W k); rw [k.K] at this; exact this, fun W σ H ρ S o c Q nt rs p D hD hs => ?_⟩
 have nt1 : NT (mkO o D .prot) := fun a z => by
  by_cases q : a = D
  ·subst q; rw [p9] at z; cases z
  ·rw [w6 q] at z; exact nt a z
 have s0 : Step c9 o c H (mkO o D .prot) c (upd H D (.ext (tdf 0 D []))) := Step.laidO rs.cs.trk hD
 have rs0 : RS G.K (mkO o D .prot) c ρ S σ (upd H D (.ext (tdf 0 D []))) := rs.laidO hD trivial
 have nD : o D = none := rs.cs.trk.new hD
 refine q1 W σ _ ρ S (mkO o D .prot) c _ nt1 rs0 ?_
 unfold a1M at p
 have p0 := PostE.step s0 p
 cases e1 : f1 ρ S with
 | bad => rw [e1] at p0; exact p0
 | exc e' S' => rw [e1] at p0; exact p0
 | ok t0 S1 =>
  rw [e1] at p p0
  cases e2 : asD t0 with
  | none => rw [R.d_okn e2] at p; exact p.elim
  | some kd =>
   rw [R.d_oks e2] at p p0
   intro kv o1 c1 H1 s1 rs1 r1
   have rd := r1.toD rs1.cs.trk e2
   refine q2 W σ H1 ρ S1 (unT o1) c1 _ B7 rs1.untmp ?_
   have s01 := s0.trans (s1.untmp nt1)
   cases e3 : f2 ρ S1 with
   | bad => rw [e3] at p; exact p.elim
   | exc e' S' =>
    rw [e3] at p
    exact PostE.step s01 p
   | ok t1' S2 =>
    rw [e3] at p
    cases e4 : asD t1' with
    | none => rw [R.d_okn e4] at p; exact p.elim
    | some d =>
     rw [R.d_oks e4] at p
     cases e5 : a37 true [] kd d with
     | none => simp only [e5] at p; exact p.elim
     | some kvs =>
      simp only [e5] at p
      intro vv o2 c2 H2 s2 rs2 r2
      have rv := r2.toD rs2.cs.trk e4
      have nt2 : NT (unT o1) := B7
      have s12 := (s1.untmp nt1).trans (s2.untmp nt2)
      have sA := s0.trans s12
      have rs3 := rs2.untmp
      have sA' : Step c9 o c H (unT o2) c2 H2 := s0.trans ((s1.untmp nt1).trans (s2.untmp nt2))
      have st2 : Step A0 o2 c2 H2 (unT o2) c2 H2 := ⟨fun a u e _ => e, fun a w e n => d4 e (by cases w <;> first | rfl | exact absurd trivial n), fun a e n => absurd (l9 e) n, List.prefix_refl c2⟩
      have rv3 := rv
      have rk3 := rd.step rs1.untmp.cs.trk (s2.untmp nt2)
      have hp2 : unT o2 D = some .prot := s12.own D _ p9 (fun z => z)
      have hD2 : H2 D = some (.ext (tdf 0 D [])) := s12.keep D _ upd_same (fun w hw => by rw [p9] at hw; cases hw; exact fun z => z)
      have dh : b60 G.K (unT o2) H2 D true [] := ⟨[], [], [], ⟨[], [], ⟨0, hD2⟩, .nil, hs, rfl, rfl⟩, Nat.zero_le _, rfl, .nil, rfl⟩
      have hset := a1X dh (by rw [hp2]; simp) rs3.cs.trk (RepU.of _ _ rk3) rv3 e5 (fun H3 => Q (.ref D) H3) (fun u ou ⟨ks, vs, ds, h2, h3, h4, h5, h6⟩ => by
       have sup : ∀ a, unT o2 a = none → I9 (unT o2) D a = none := fun a e => by
        have : a ≠ D := fun z => by rw [z, hp2] at e; cases e
        unfold I9
        rw [w6 this]
        exact e
       have trk' : Trk (unT o2) (upd H2 D u) := fun a n => by
        by_cases z : a = D
        ·rw [z]; exact ⟨_, upd_same, ou⟩
        ·obtain ⟨u', hu, ou'⟩ := rs3.cs.trk a n
         exact ⟨u', by rw [upd_ne z]; exact hu, ou'⟩
       have kw : Kept (unT o2) H2 (I9 (unT o2) D) (upd H2 D u) := fun a w e n => by
        have : a ≠ D := fun z => by rw [z, hp2] at n; cases n
        exact ⟨by rw [upd_ne this]; exact e, sup a n⟩
       have st : Step c9 o c H (I9 (unT o2) D) c2 (upd H2 D u) := ⟨fun a w e n => by
         rw [upd_ne (ne_of_none e hD)]
         exact sA'.keep a w e n, fun a w e n => by
         have : a ≠ D := fun z => by rw [z, nD] at e; cases e
         unfold I9
         rw [w6 this]
         exact sA'.own a w e n, fun a e n => by
         by_cases z : a = D
         ·rw [z]; exact hD
         ·unfold I9 at n
          rw [w6 z] at n
          exact sA'.new a e n, sA'.pre⟩
       have cst : CS G.K (I9 (unT o2) D) c2 S2 (upd H2 D u) := rs3.cs.move kw (fun a n e => by
         have : a ≠ D := fun z => by rw [z, hp2] at e; cases e
         exact ⟨by unfold I9; rw [w6 this]; exact e, fun u hu => by rw [upd_ne this]; exact hu⟩) fun a n => by
         by_cases z : a = D
         ·rw [z]; exact ⟨_, upd_same, ou⟩
         ·unfold I9 at n
          rw [w6 z] at n
          obtain ⟨u', hu, ou'⟩ := rs3.cs.trk a n
          exact ⟨u', by rw [upd_ne z]; exact hu, ou'⟩
       exact p (.ref D) (I9 (unT o2) D) c2 _ st (rs.step st cst) ⟨D, ks, vs, ds, rfl, p9, h2, h3, h4, h5.kept trk' (fun a w e n => ⟨e, sup a n⟩), h6⟩)
      rcases hset with h | h | h
      ·obtain ⟨a, vs, j, k, ea, _, hH, _⟩ := h
       cases ea
       rw [hD2] at hH
       cases hH
      ·exfalso
       obtain ⟨a, es, ea, h, _⟩ := h
       cases ea
       rcases h with ⟨_, _, hH, _⟩ | ⟨_, _, _, hH, _⟩
       ·rw [hD2] at hH
        cases hH
       ·rw [hD2] at hH
        cases hH
      ·exact h
end
end BV
namespace BV
open PySem L2
section
variable {G : Cc} {W : WX} {o o1 : Gh} {c c1 : Cs} {ρ : En} {σ : L2.St} {H H1 : Hp} {S S1 : Sto} {pos : Pos} {e : Expr} {es : List Expr} {fs : SA} {m : List BV.D → List BV.D → Option (List BV.D × BV.D)}
end
end BV
namespace BV
open PySem L2
def a4z (i : Nat) (fa : SE) (m : List BV.D → List BV.D → Option (List BV.D × BV.D)) (fs : SU) : SS := fun ρ S => match ρ[i]? with
 | some (some (.own2 xss)) => sD fa (fun da ρ S => match da with
  | .int j => (match ixN xss.length j with
   | some k => (match xss[k]? with
    | some xs => sA fs (fun ds ρ S => match m xs ds with
     | some (xs', _) => .nx (ρ.set i (some (.own2 (xss.set k xs')))) S
     | none => .bad) ρ S
    | none => .bad)
   | none => .bad)
  | _ => .bad) ρ S
 | _ => .bad
section
variable {G : Cc} {W : WX} {o o1 : Gh} {c c1 : Cs} {ρ : En} {σ : L2.St} {H H1 : Hp} {S S1 : Sto} {pos : Pos} {e : Expr} {es : List Expr} {fs : SU} {m : List BV.D → List BV.D → Option (List BV.D × BV.D)}
theorem a5a (i : Nat) {a : Expr} {f2 : SE} {x nm : Str} {xp up ap cp : Pos} (L : LMU G nm m) (h2 : UV G a f2) (h : UAV G (e :: es) fs) (hs2 : PlainIx a := by exact fun _ _ => rfl) (hN : G.N[i]? = some x := by rfl) (hv : Vis G.sc x := by first | exact Or.inl rfl | exact Or.inr (Or.inl rfl) | exact Or.inr (Or.inr rfl)) (hd : (x == ("__debug__" : Str)) = false := by decide) (hcd : (x == ("__classdict__" : Str)) = false := by decide)
  (hbase : ∀ env : PySem.Env, attributeBase (.Subscript (.Name x xp) a up) nm env (eval (.Subscript (.Name x xp) a up) env) = eval (.Subscript (.Name x xp) a up) env := by intro _; rfl)
  (hfew : ∀ env : PySem.Env, ((backTo cp (starEach (e :: es) env)).all (fun x => !x.1) && (backToKw cp (keywordEach [] env)).all (fun x => x.1.isSome) && decide ((e :: es).length + ([] : List Keyword).length + (if ([] : List Keyword).isEmpty then 0 else 1) < 30)) = true := by intro _; rfl)
  (hline : (ap.endLine == cp.line) = true := by rfl) (hs : ∀ env : PySem.Env, starEach (e :: es) env = (false, eval e env) :: starEach es env := by intro _; rfl) (hpl : ∀ env : PySem.Env, (backTo cp (starEach es env)).any (·.1) = false := by intro _; rfl)
  (hw : ∀ env : PySem.Env, swapsWith (.Call (.Attribute (.Subscript (.Name x xp) a up) nm ap) (e :: es) [] cp) none pos.line env = pure false := by intro _; rfl) :
  SV G (.Expr (.Call (.Attribute (.Subscript (.Name x xp) a up) nm ap) (e :: es) [] cp) pos) (a4z i f2 m fs) := by
 obtain ⟨t, pp, q⟩ := h
 obtain ⟨t2, p2, q2⟩ := h2
 obtain ⟨id, r, sl, ty, hr, hm⟩ := L.ex
 refine ⟨fun W => tDrop (tBM G.K "list" r (tOp (rIxL G.K) (tVar i) (t2 W)) (t W)), fun X W k => ?_, fun W σ H ρ S o c D nt rs ps => ?_⟩
 ·have hp := pe_ix (pos := up) (ix_list (X := X)) (pe_var (pos := xp) (k.at hN) (k.vis hv) hd hcd) (p2 X W k) hs2
  have := pe_bm (X := X) PySem.F.plainAttrs_list sl ty (hr X W k) hp (pp X W k) (hbase _) (hfew _) hline (hs _) (hpl _)
  rw [k.K] at this
  exact ps_expr this (hw _)
 unfold a4z at ps
 split at ps
 rotate_left
 ·exact ps.elim
 ·rename_i xss e2
  obtain ⟨v0, ev, _⟩ := rs.slot i _ e2
  refine ⟨v0, ev, (q2 W).s nt rs ps fun da S3 iv o3 c3 H3 s3 nt3 rs3 ri p3 => ?_⟩
  cases da with
  | int j =>
   cases e4 : ixN xss.length j with
   | none => simp only [e4] at p3; exact p3.elim
   | some k =>
    simp only [e4] at p3
    cases e5 : xss[k]? with
    | none => simp only [e5] at p3; exact p3.elim
    | some xs =>
     simp only [e5] at p3
     obtain ⟨a3, as, b3, vs, k3, y1, y2, y3, y4, y5, y6, y7, y8, y9, y10, _⟩ := b0w rs3 e2 (b0W e4 e5)
     rw [ev] at y1
     cases y1
     rw [e4] at y4
     cases y4
     refine ⟨a3, _, j, .ref b3, rfl, ri.intV, .inl (.inl y2), y3, .inl ⟨rfl, vs, .of y8⟩, ?_⟩
     refine (q W).s nt3 rs3 p3 fun ds S5 us o5 c5 H5 s5 nt5 rs5 rj p5 => ?_
     ·cases e7 : m xs ds with
      | none => simp only [e7] at p5; exact p5.elim
      | some xd =>
       obtain ⟨xs', d'⟩ := xd
       simp only [e7] at p5
       obtain ⟨a5, as5, b5, vs5, k5, z1, z2, z3, z4, z5, z6, z7, z8, z9, z10, wr⟩ := b0w rs5 e2 (b0W e4 e5)
       rw [ev] at z1
       cases z1
       rw [e4] at z4
       cases z4
       have hA : H5 a3 = some (.lst (as.map V.ref)) := s5.keep a3 _ y2 fun w hw => by
        obtain ⟨v', ev', a', as', e', q', _⟩ := rs3.slot i _ e2
        rw [ev] at ev'
        cases ev'
        cases e'
        rw [q'] at hw
        cases hw
        exact fun z => z
       rw [hA] at z2
       have has : as.map V.ref = as5.map V.ref := by
        simp only [Option.some.injEq, HO.lst.injEq] at z2
        exact z2
       have : b5 = b3 := by
        have h1 : (as5.map V.ref)[k]? = some (.ref b5) := by rw [List.getElem?_map, z6]; rfl
        have h2 : (as.map V.ref)[k]? = some (.ref b3) := by rw [List.getElem?_map, y6]; rfl
        rw [has, h1] at h2
        cases h2
        rfl
       subst this
       refine hm o5 H5 b5 vs5 xs us ds xs' d' _ z8 z9 z10 rj e7 fun v' vs' r' zl rv => ?_
       obtain ⟨s6, rs6⟩ := wr vs' xs' zl r'
       exact p5 σ o5 c5 _ s6 nt5 rs6
  | _ => exact p3.elim
end
end BV
namespace BV
open PySem PySem.Spec PyProof.Rows L2
def b1n (f : SE) : SE := fun ρ S => match f ρ S with
 | .ok (.own2 xss) S1 => if xss.length < 10000 then .ok (.own2 (xss ++ [[], []])) S1 else .bad
 | .exc e S1 => .exc e S1
 | _ => .bad
@[simp] theorem b7d {f : SE} {ρ : En} {S : Sto} : b1n f ρ S = (match f ρ S with
 | .ok (.own2 xss) S1 => if xss.length < 10000 then .ok (.own2 (xss ++ [[], []])) S1 else .bad
 | .exc e S1 => .exc e S1
 | _ => .bad) := rfl
section
variable {G : Cc} {a : Expr} {f : SE} {p1 p2 p3 pos : Pos}
theorem b4x (h : EV G a f) : EV G (.BinOp a .Add (.List [.List [] p1, .List [] p2] p3) pos) (b1n f) := by
 obtain ⟨t, pp, q⟩ := h
 refine ⟨fun W => tOp rCat (t W) (tLst (tCons (tLst tNil) (tCons (tLst tNil) tNil))), fun X W k => pe_op (op_cat (X := X)) (pp X W k) (pe_lst (pa_cons (pe_lst pa_nil) (pa_cons (pe_lst pa_nil) pa_nil))), fun W σ H ρ S o c Q nt rs ps => ?_⟩
 refine q W σ H ρ S o c _ nt rs ?_
 unfold b1n at ps
 cases e1 : f ρ S with
 | bad => rw [e1] at ps; exact ps.elim
 | exc e' S' => rw [e1] at ps; exact ps
 | ok t0 S1 =>
  rw [e1] at ps
  cases t0 with
  | own2 xss =>
   dsimp only at ps
   split at ps
   rotate_left
   ·exact ps.elim
   rename_i hlt
   intro v o1 c1 H1 s1 rs1 r1
   obtain ⟨A, as, rfl, oA, hA, nd, la, lx, ri⟩ := r1
   -- the display
   refine ⟨Nat.zero_le _, fun b1 n1 => ⟨Nat.zero_le _, fun b2 n2 => ⟨by show 2 ≤ sizeLine; decide, fun b3 n3 => ?_⟩⟩⟩
   have s2 : Step c9 o1 c1 H1 (mkO o1 b1 .tmp) c1 (upd H1 b1 (.lst [])) := Step.laidO rs1.cs.trk n1
   have rs2 : RS G.K (mkO o1 b1 .tmp) c1 ρ S1 σ (upd H1 b1 (.lst [])) := rs1.laidO n1 trivial
   have s3 : Step c9 (mkO o1 b1 .tmp) c1 (upd H1 b1 (.lst [])) (mkO (mkO o1 b1 .tmp) b2 .tmp) c1 (upd (upd H1 b1 (.lst [])) b2 (.lst [])) := Step.laidO rs2.cs.trk n2
   have rs3 : RS G.K (mkO (mkO o1 b1 .tmp) b2 .tmp) c1 ρ S1 σ (upd (upd H1 b1 (.lst [])) b2 (.lst [])) := rs2.laidO n2 trivial
   have s4 : Step c9 (mkO (mkO o1 b1 .tmp) b2 .tmp) c1 (upd (upd H1 b1 (.lst [])) b2 (.lst [])) (mkO (mkO o1 b1 .tmp) b2 .tmp) c1 (upd (upd (upd H1 b1 (.lst [])) b2 (.lst [])) b3 (.lst [.ref b1, .ref b2])) := Step.laid n3
   have rs4 : RS G.K (mkO (mkO o1 b1 .tmp) b2 .tmp) c1 ρ S1 σ (upd (upd (upd H1 b1 (.lst [])) b2 (.lst [])) b3 (.lst [.ref b1, .ref b2])) := rs3.laid n3
   have hA4 : (upd (upd (upd H1 b1 (.lst [])) b2 (.lst [])) b3 (.lst [.ref b1, .ref b2])) A = some (.lst (as.map V.ref)) := by
    have e2 : (upd H1 b1 (.lst [])) A = some (.lst (as.map V.ref)) := by rw [upd_ne (ne_of_none hA n1)]; exact hA
    have e3 : (upd (upd H1 b1 (.lst [])) b2 (.lst [])) A = some (.lst (as.map V.ref)) := by rw [upd_ne (ne_of_none e2 n2)]; exact e2
    rw [upd_ne (ne_of_none e3 n3)]
    exact e3
   refine ⟨A, b3, as.map V.ref, [.ref b1, .ref b2], rfl, rfl, hA4, upd_same, by rw [List.length_map]; show as.length + 2 ≤ sizeLine; rw [sizeLine_eq]; omega, fun D n4 => ?_⟩
   have s5 : Step c9 (mkO (mkO o1 b1 .tmp) b2 .tmp) c1 (upd (upd (upd H1 b1 (.lst [])) b2 (.lst [])) b3 (.lst [.ref b1, .ref b2])) (mkO (mkO (mkO o1 b1 .tmp) b2 .tmp) D .tmp) c1 (upd (upd (upd (upd H1 b1 (.lst [])) b2 (.lst [])) b3 (.lst [.ref b1, .ref b2])) D (.lst (as.map V.ref ++ [.ref b1, .ref b2]))) := Step.laidO rs4.cs.trk n4
   have rs5 : RS G.K (mkO (mkO (mkO o1 b1 .tmp) b2 .tmp) D .tmp) c1 ρ S1 σ (upd (upd (upd (upd H1 b1 (.lst [])) b2 (.lst [])) b3 (.lst [.ref b1, .ref b2])) D (.lst (as.map V.ref ++ [.ref b1, .ref b2]))) := rs4.laidO n4 trivial
   have st15 := ((s2.trans s3).trans s4).trans s5
   have st15' := st15
   have b1n2 : b1 ≠ b2 := fun z => by rw [← z, upd_same] at n2; cases n2
   have hb1 : (upd H1 b1 (.lst [])) b1 = some (.lst []) := upd_same
   have hb1' : (upd (upd H1 b1 (.lst [])) b2 (.lst [])) b1 = some (.lst []) := by rw [upd_ne b1n2]; exact hb1
   have hb2' : (upd (upd H1 b1 (.lst [])) b2 (.lst [])) b2 = some (.lst []) := upd_same
   have b13 : b1 ≠ b3 := fun z => by rw [← z, hb1'] at n3; cases n3
   have b23 : b2 ≠ b3 := fun z => by rw [← z, hb2'] at n3; cases n3
   have hb1'' : (upd (upd (upd H1 b1 (.lst [])) b2 (.lst [])) b3 (.lst [.ref b1, .ref b2])) b1 = some (.lst []) := by rw [upd_ne b13]; exact hb1'
   have hb2'' : (upd (upd (upd H1 b1 (.lst [])) b2 (.lst [])) b3 (.lst [.ref b1, .ref b2])) b2 = some (.lst []) := by rw [upd_ne b23]; exact hb2'
   have b1D : b1 ≠ D := fun z => by rw [← z, hb1''] at n4; cases n4
   have b2D : b2 ≠ D := fun z => by rw [← z, hb2''] at n4; cases n4
   have rows : ∀ b ∈ as, ∃ u, H1 b = some u := fun b hb => by
    obtain ⟨i, hi⟩ := List.getElem?_of_mem hb
    have hl := (List.getElem?_eq_some_iff.mp hi).1
    obtain ⟨_, vs, hv, _⟩ := ri i b _ hi (List.getElem?_eq_getElem (by omega))
    exact ⟨_, hv⟩
   have nb1 : b1 ∉ as := fun z => by obtain ⟨u, hu⟩ := rows b1 z; rw [n1] at hu; cases hu
   have keep2 : ∀ b u, H1 b = some u → (upd H1 b1 (.lst [])) b = some u := fun b u e => by rw [upd_ne (ne_of_none e n1)]; exact e
   have nb2 : b2 ∉ as := fun z => by obtain ⟨u, hu⟩ := rows b2 z; have := keep2 _ _ hu; rw [n2] at this; cases this
   have keep4 : ∀ b u, H1 b = some u → (upd (upd (upd H1 b1 (.lst [])) b2 (.lst [])) b3 (.lst [.ref b1, .ref b2])) b = some u := fun b u e => by
    have e2 := keep2 b u e
    have e3 : (upd (upd H1 b1 (.lst [])) b2 (.lst [])) b = some u := by rw [upd_ne (ne_of_none e2 n2)]; exact e2
    rw [upd_ne (ne_of_none e3 n3)]
    exact e3
   have nD : D ∉ as := fun z => by obtain ⟨u, hu⟩ := rows D z; have := keep4 _ _ hu; rw [n4] at this; cases this
   have nd2 : as.Nodup := (List.nodup_cons.mp nd).2
   refine ps (.ref D) _ c1 _ (s1.trans st15) rs5 ⟨D, as ++ [b1, b2], rfl, p9, ?_, ?_, ?_, ?_, ?_⟩
   ·rw [List.map_append]
    exact upd_same
   ·rw [List.nodup_cons]
    refine ⟨fun z => ?_, ?_⟩
    ·rcases List.mem_append.mp z with y | y
     ·exact nD y
     ·simp only [List.mem_cons, List.not_mem_nil, or_false] at y
      rcases y with y | y
      ·exact b1D y.symm
      ·exact b2D y.symm
    ·rw [List.nodup_append]
     refine ⟨nd2, by simp [b1n2], fun x hx y hy e => ?_⟩
     subst e
     simp only [List.mem_cons, List.not_mem_nil, or_false] at hy
     rcases hy with y | y
     ·exact nb1 (y ▸ hx)
     ·exact nb2 (y ▸ hx)
   ·rw [List.length_append]
    show as.length + 2 ≤ sizeLine
    rw [sizeLine_eq]
    omega
   ·rw [List.length_append, List.length_append, lx]
    rfl
   ·intro i b xs hi hx
    by_cases hil : i < as.length
    ·rw [List.getElem?_append_left hil] at hi
     rw [List.getElem?_append_left (by omega)] at hx
     obtain ⟨ob, vs, hv, hz, ra⟩ := ri i b xs hi hx
     refine ⟨st15'.own b _ ob (fun z => z), vs, st15'.keep b _ hv (fun w hw => by rw [ob] at hw; cases hw; exact fun z => z), hz, ra.step rs1.cs.trk st15' (vol := c9)⟩
    ·have hi2 : i < as.length + 2 := by
      have := (List.getElem?_eq_some_iff.mp hi).1
      rw [List.length_append] at this
      exact this
     rw [List.getElem?_append_right (by omega)] at hi
     rw [List.getElem?_append_right (by omega)] at hx
     rcases (by omega : i = as.length ∨ i = as.length + 1) with z | z
     ·subst z
      rw [Nat.sub_self] at hi
      rw [← lx, Nat.sub_self] at hx
      cases hi
      cases hx
      refine ⟨by rw [w6 b1D, w6 b1n2, p9], [], by rw [upd_ne b1D]; exact hb1'', Nat.zero_le _, .nil⟩
     ·subst z
      rw [show as.length + 1 - as.length = 1 by omega] at hi
      rw [← lx, show as.length + 1 - as.length = 1 by omega] at hx
      cases hi
      cases hx
      refine ⟨by rw [w6 b2D, p9], [], by rw [upd_ne b2D]; exact hb2'', Nat.zero_le _, .nil⟩
  | _ => exact ps.elim
end
end BV
namespace BV
open PySem L2

def n7 (n : Nat) : Bool := decide (n ≤ sizeLine)
theorem a2T (n : Nat) : (n7 n = true) = (n ≤ sizeLine) := by
 unfold n7
 exact propext ⟨of_decide_eq_true, decide_eq_true⟩
theorem g9 {n : Nat} (h : n ≤ sizeLine) : n7 n = true := decide_eq_true h
theorem i5 : 4096 ≤ sizeLine := by decide
@[simp] theorem b9d : n7 0 = true := g9 (Nat.le_trans (show 0 ≤ 4096 by decide) i5)
@[simp] theorem b9G : n7 1 = true := g9 (Nat.le_trans (show 1 ≤ 4096 by decide) i5)
@[simp] theorem b80 : n7 2 = true := g9 (Nat.le_trans (show 2 ≤ 4096 by decide) i5)
@[simp] theorem b9y : n7 3 = true := g9 (Nat.le_trans (show 3 ≤ 4096 by decide) i5)
@[simp] theorem b8L : n7 4 = true := g9 (Nat.le_trans (show 4 ≤ 4096 by decide) i5)
@[simp] theorem b92 : n7 5 = true := g9 (Nat.le_trans (show 5 ≤ 4096 by decide) i5)
@[simp] theorem b9p : n7 6 = true := g9 (Nat.le_trans (show 6 ≤ 4096 by decide) i5)
@[simp] theorem b8V : n7 7 = true := g9 (Nat.le_trans (show 7 ≤ 4096 by decide) i5)
@[simp] theorem b8M : n7 8 = true := g9 (Nat.le_trans (show 8 ≤ 4096 by decide) i5)
@[simp] theorem b8W : n7 9 = true := g9 (Nat.le_trans (show 9 ≤ 4096 by decide) i5)
@[simp] theorem b8f : n7 10 = true := g9 (Nat.le_trans (show 10 ≤ 4096 by decide) i5)
@[simp] theorem b8q : n7 11 = true := g9 (Nat.le_trans (show 11 ≤ 4096 by decide) i5)
@[simp] theorem b7N : n7 12 = true := g9 (Nat.le_trans (show 12 ≤ 4096 by decide) i5)
@[simp] theorem b8n : n7 13 = true := g9 (Nat.le_trans (show 13 ≤ 4096 by decide) i5)
@[simp] theorem b8e : n7 14 = true := g9 (Nat.le_trans (show 14 ≤ 4096 by decide) i5)
@[simp] theorem b76 : n7 15 = true := g9 (Nat.le_trans (show 15 ≤ 4096 by decide) i5)
@[simp] theorem b7Z : n7 16 = true := g9 (Nat.le_trans (show 16 ≤ 4096 by decide) i5)
@[simp] theorem b7U : n7 17 = true := g9 (Nat.le_trans (show 17 ≤ 4096 by decide) i5)
@[simp] theorem b7P : n7 18 = true := g9 (Nat.le_trans (show 18 ≤ 4096 by decide) i5)
@[simp] theorem b7S : n7 19 = true := g9 (Nat.le_trans (show 19 ≤ 4096 by decide) i5)
@[simp] theorem b8u : n7 20 = true := g9 (Nat.le_trans (show 20 ≤ 4096 by decide) i5)
@[simp] theorem b7R : n7 21 = true := g9 (Nat.le_trans (show 21 ≤ 4096 by decide) i5)
@[simp] theorem b7K : n7 22 = true := g9 (Nat.le_trans (show 22 ≤ 4096 by decide) i5)
@[simp] theorem b7W : n7 23 = true := g9 (Nat.le_trans (show 23 ≤ 4096 by decide) i5)
@[simp] theorem b8t : n7 24 = true := g9 (Nat.le_trans (show 24 ≤ 4096 by decide) i5)
@[simp] theorem b8l : n7 25 = true := g9 (Nat.le_trans (show 25 ≤ 4096 by decide) i5)
@[simp] theorem b8i : n7 26 = true := g9 (Nat.le_trans (show 26 ≤ 4096 by decide) i5)
@[simp] theorem b8s : n7 27 = true := g9 (Nat.le_trans (show 27 ≤ 4096 by decide) i5)
@[simp] theorem b72 : n7 28 = true := g9 (Nat.le_trans (show 28 ≤ 4096 by decide) i5)
@[simp] theorem b8d : n7 29 = true := g9 (Nat.le_trans (show 29 ≤ 4096 by decide) i5)
@[simp] theorem b8o : n7 30 = true := g9 (Nat.le_trans (show 30 ≤ 4096 by decide) i5)
@[simp] theorem b8m : n7 31 = true := g9 (Nat.le_trans (show 31 ≤ 4096 by decide) i5)
@[simp] theorem b8b : n7 32 = true := g9 (Nat.le_trans (show 32 ≤ 4096 by decide) i5)
section
variable {f f1 f2 f3 : SE} {g g1 g2 : SS} {fs : SA} {fu : SU} {b b1 b2 : SB} {ρ ρ' : En} {S S' S1 : Sto} {t : T} {e : Exc} {i : Nat} {d : D}
@[simp] theorem a8a : j9 g1 g2 ρ S = (g1 ρ S).then g2 := rfl
@[simp] theorem b0R : (Fl.nx ρ S).then g = g ρ S := rfl
@[simp] theorem b7C : (Fl.bk ρ S).then g = .bk ρ S := rfl
@[simp] theorem b6r : (Fl.ct ρ S).then g = .ct ρ S := rfl
@[simp] theorem b6Y : (Fl.rt t S).then g = .rt t S := rfl
@[simp] theorem b7y : (Fl.ex e ρ S).then g = .ex e ρ S := rfl
@[simp] theorem c0e : t4 ρ S = .nx ρ S := rfl
@[simp] theorem b9n {k} : sE f k ρ S = (match f ρ S with | .ok t S1 => k t ρ S1 | .exc e S1 => .ex e ρ S1 | .bad => .bad) := rfl
@[simp] theorem c2o {k} : sD f k ρ S = sE f (fun t ρ S => match asD t with | some d => k d ρ S | none => .bad) ρ S := rfl
@[simp] theorem b4d : s8 i f ρ S = sE f (fun t ρ S => .nx (ρ.set i (some t)) S) ρ S := rfl
@[simp] theorem c03 : b5k i f ρ S = s8 i (b6m f) ρ S := rfl
@[simp] theorem c0x : b6m f ρ S = (match f ρ S with | .ok t S1 => (match b5G t with | some k => .ok (.cel S1.length) (S1 ++ [k]) | none => .bad) | .exc e S1 => .exc e S1 | .bad => .bad) := rfl
@[simp] theorem b5P {xs} : b5G (.own xs) = some (.lst xs) := rfl
@[simp] theorem b5f {q kvs} : b5G (.ownd q kvs) = some (.dct q kvs) := rfl
@[simp] theorem c1N : O3 f ρ S = sE f (fun t _ S => .rt t S) ρ S := rfl
@[simp] theorem c0Q : U8 i ρ S = (match ρ[i]? with | some (some t) => .rt t S | _ => .bad) := rfl
@[simp] theorem c0y : sIf b g1 g2 ρ S = (match b ρ S with | .ok c S1 => if c = true then g1 ρ S1 else g2 ρ S1 | .exc e S1 => .ex e ρ S1 | .bad => .bad) := rfl
@[simp] theorem c14 {src : SI} {bb : BT1} : a0Y src bb g ρ S = (match src ρ S with | .ok ds S1 => a7J bb g ds ρ S1 | .exc e S1 => .ex e ρ S1 | .bad => .bad) := rfl
@[simp] theorem c1T : sFz i g ρ S = (match fz i ρ with | some ρ' => g ρ' S | none => .bad) := rfl
@[simp] theorem c1U : fz i ρ = (match ρ[i]? with | some (some t) => (asD t).map fun d => ρ.set i (some (.val d)) | _ => none) := rfl
@[simp] theorem c1C {h : Int → Int → Int} : b7h i h f ρ S = (match ρ[i]? with | some (some (.val (.int a))) => sD f (fun d ρ S => match d with | .int b => .nx (ρ.set i (some (.val (.int (h a b))))) S | _ => .bad) ρ S | _ => .bad) := rfl
@[simp] theorem c1w : b7L i f1 f2 ρ S = sE f2 (fun t ρ S => match asD t with
 | none => .bad
 | some d => match ρ[i]? with
  | some (some (.own xs)) => sD f1 (fun di ρ S => match di with
   | .int j => (match ixN xs.length j with | some k => .nx (ρ.set i (some (.own (xs.set k d)))) S | none => .bad)
   | _ => .bad) ρ S
  | some (some (.ownd q kvs)) => sD f1 (fun di ρ S => match a37 q kvs di d with
   | some kvs' => .nx (ρ.set i (some (.ownd q kvs'))) S
   | none => .bad) ρ S
  | _ => .bad) ρ S := rfl
@[simp] theorem c0K : b0L i f1 f2 ρ S = sE f2 (fun t ρ S => match asD t with
 | none => .bad
 | some d => match ρ[i]? with
  | some (some (.cel n)) => sD f1 (fun di ρ S => match S[n]? with
   | some (.lst xs) => (match di with
    | .int j => (match ixN xs.length j with | some k => .nx ρ (S.set n (.lst (xs.set k d))) | none => .bad)
    | _ => .bad)
   | some (.dct q kvs) => (match a37 q kvs di d with | some kvs' => .nx ρ (S.set n (.dct q kvs')) | none => .bad)
   | _ => .bad) ρ S
  | _ => .bad) ρ S := rfl
@[simp] theorem c2m {α : Type} {h : En → Sto → R α} {k} : sA h k ρ S = (match h ρ S with | .ok t S1 => k t ρ S1 | .exc e S1 => .ex e ρ S1 | .bad => .bad) := rfl
@[simp] theorem c0G : a0s d ρ S = .nx ρ S := rfl
@[simp] theorem c1O : m7 i ρ S = (match ρ[i]? with | some (some (.val d)) => .ok (.val d) S | some (some (.cel n)) => .ok (.cel n) S | some (some (.scr ns)) => .ok (.scr ns) S | some (some (.exn a C d e)) => .ok (.exn a C d e) S | _ => .bad) := rfl
@[simp] theorem b6D : b7 i ρ S = (match ρ[i]? with | some (some (.val d)) => .ok (.val d) S | some (some (.own xs)) => .ok (.own xs) S | some (some (.ownd q kvs)) => .ok (.ownd q kvs) S | _ => .bad) := rfl
@[simp] theorem e_C : cC d ρ S = .ok (.val d) S := rfl
@[simp] theorem b69 {h : D → D → Option T} : d9 h f1 f2 ρ S = R.d (f1 ρ S) fun a S1 => R.d (f2 ρ S1) fun b S2 => match h a b with | some t => .ok t S2 | none => .bad := rfl
@[simp] theorem c2u {h : D → Option T} : cUn h f ρ S = R.d (f ρ S) fun a S1 => match h a with | some t => .ok t S1 | none => .bad := rfl
@[simp] theorem a1O {k} : R.d (.ok (.val d) S) k = k d S := rfl
@[simp] theorem b8Y {xs k} : R.d (.ok (.own xs) S) k = k (.list xs) S := rfl
@[simp] theorem b71 {xs k} : R.d (.ok (.own2 xs) S) k = k (.list (xs.map PyData.list)) S := rfl
@[simp] theorem b8x {k} : R.d (.exc e S) k = .exc e S := rfl
@[simp] theorem b9q {k} : R.d .bad k = .bad := rfl
@[simp] theorem M4 {α β : Type} {t : α} {k : α → Sto → R β} : R.l (.ok t S) k = k t S := rfl
@[simp] theorem b8z {α β : Type} {k : α → Sto → R β} : R.l (.exc e S) k = .exc e S := rfl
@[simp] theorem b9b {α β : Type} {k : α → Sto → R β} : R.l .bad k = .bad := rfl
@[simp] theorem a3e : asD (.val d) = some d := rfl
@[simp] theorem b6J {xs} : asD (.own xs) = some (.list xs) := rfl
@[simp] theorem b5x {xs} : asD (.own2 xs) = some (.list (xs.map PyData.list)) := rfl
@[simp] theorem b58 {n} : asD (.cel n) = none := rfl
@[simp] theorem b54 {a C d e} : asD (.exn a C d e) = none := rfl
@[simp] theorem b6C {n} : asD (.scr n) = none := rfl
@[simp] theorem b7b : asA (.val d) = .val d := rfl
@[simp] theorem b6y {xs} : asA (.own xs) = .val (.list xs) := rfl
@[simp] theorem b5n {xs} : asA (.own2 xs) = .val (.list (xs.map PyData.list)) := rfl
@[simp] theorem b5Z {n} : asA (.cel n) = .cel n := rfl
@[simp] theorem b50 {a C d e} : asA (.exn a C d e) = .exn a C d e := rfl
@[simp] theorem b62 {n} : asA (.scr n) = .scr n := rfl
@[simp] theorem c04 : m6 ρ S = .ok [] S := rfl
@[simp] theorem b8O : d3 f fs ρ S = R.l (f ρ S) fun t S1 => R.l (fs ρ S1) fun ts S2 => .ok (asA t :: ts) S2 := rfl
@[simp] theorem c0z : A9 ρ S = .ok [] S := rfl
@[simp] theorem b9v : i8 f fu ρ S = (match f ρ S with | .ok t S1 => (match asD t with | some d => R.l (fu ρ S1) fun ds S2 => .ok (d :: ds) S2 | none => .bad) | .exc e S1 => .exc e S1 | .bad => .bad) := rfl
@[simp] theorem c06 {h : Fn} : t9 h fs ρ S = R.l (fs ρ S) fun ts S1 => h ts S1 := rfl
@[simp] theorem c0a : n9 fs ρ S = R.l (fs ρ S) fun ts S1 => match a1j ts with | some ds => if n7 ds.length = true then .ok (.own ds) S1 else .bad | none => .bad := by
 unfold n9
 congr 1
 funext ts S1
 cases a1j ts with
 | none => rfl
 | some ds =>
  by_cases h : ds.length ≤ sizeLine
  ·simp only [if_pos h, if_pos (g9 h)]
  ·have h2 : ¬ n7 ds.length = true := by rw [a2T]; exact h
   simp only [if_neg h, if_neg h2]
@[simp] theorem c1r : Y1 fs ρ S = R.l (fs ρ S) fun ts S1 => match a1j ts with | some ds => if n7 ds.length = true then .ok (.val (.tuple ds)) S1 else .bad | none => .bad := by
 unfold Y1
 congr 1
 funext ts S1
 cases a1j ts with
 | none => rfl
 | some ds =>
  by_cases h : ds.length ≤ sizeLine
  ·simp only [if_pos h, if_pos (g9 h)]
  ·have h2 : ¬ n7 ds.length = true := by rw [a2T]; exact h
   simp only [if_neg h, if_neg h2]
@[simp] theorem b5t : a1j [] = some [] := rfl
@[simp] theorem b4D {ts} : a1j (.val d :: ts) = (a1j ts).map (d :: ·) := rfl
@[simp] theorem c2h {h : List D → Option T} : cB1 h fu ρ S = R.l (fu ρ S) fun ds S1 => match h ds with | some t => .ok t S1 | none => .bad := rfl
@[simp] theorem c2j : cT f ρ S = (f ρ S).tr := rfl
@[simp] theorem c2l : cB f ρ S = (f ρ S).b := rfl
@[simp] theorem b8Q {c} : (R.ok (.val (.bool c)) S).b = .ok c S := rfl
@[simp] theorem b87 : (R.exc e S : R T).b = .exc e S := rfl
@[simp] theorem b94 : (R.ok t S).tr = (match (asD t).bind b1j with | some b => .ok b S | none => .bad) := rfl
@[simp] theorem b7M : (R.exc e S : R T).tr = .exc e S := rfl
@[simp] theorem c0v : b1e b1 b2 ρ S = R.l (b1 ρ S) fun c S1 => if c = true then b2 ρ S1 else .ok false S1 := rfl
@[simp] theorem c1v : bOr b1 b2 ρ S = R.l (b1 ρ S) fun c S1 => if c = true then .ok true S1 else b2 ρ S1 := rfl
@[simp] theorem c05 : b6l b ρ S = R.l (b ρ S) fun c S1 => .ok (!c) S1 := rfl
@[simp] theorem b9w : a0L i f ρ S = (match ρ[i]? with | some (some (.scr ns)) => R.d (f ρ S) fun d S1 => (match d with | .int j => (match atI ns j with | some n => .ok (.val (.int n)) S1 | none => .bad) | _ => .bad) | _ => .bad) := rfl
@[simp] theorem b79 : a0t i ρ S = (match ρ[i]? with | some (some (.scr ns)) => .ok (.val (.int (ns.length : Int))) S | _ => .bad) := rfl
@[simp] theorem b9T : M3 i f ρ S = (match ρ[i]? with | some (some (.cel n)) => R.d (f ρ S) fun d S1 => (match d, S1[n]? with | .int j, some (.lst xs) => (match atI xs j with | some x => .ok (.val x) S1 | none => .bad) | _, _ => .bad) | _ => .bad) := rfl
@[simp] theorem b7J : P1 ρ S = .ok none S := rfl
@[simp] theorem c0h : V9 f ρ S = (match f ρ S with | .ok t S1 => (match asD t with | some (.int i) => .ok (some i) S1 | _ => .bad) | .exc e S1 => .exc e S1 | .bad => .bad) := rfl
@[simp] theorem c2q {h1 h2} : cSl f h1 h2 ρ S = R.d (f ρ S) fun d S1 => R.l (h1 ρ S1) fun lo S2 => R.l (h2 ρ S2) fun hi S3 => match gSl d lo hi with | some t => .ok t S3 | none => .bad := rfl
@[simp] theorem c1B {h} : a18 h fu ρ S = R.l (fu ρ S) fun ds S1 => match h ds with | some xs => .ok xs S1 | none => .bad := rfl
@[simp] theorem a6f : a0X f ρ S = (match f ρ S with | .ok t S1 => (match (asD t).bind b5y with | some ds => .ok ds S1 | none => .bad) | .exc e S1 => .exc e S1 | .bad => .bad) := rfl
@[simp] theorem b73 {xs} : b5y (.list xs) = some xs := rfl
@[simp] theorem b8k {xs} : b5y (.tuple xs) = some xs := rfl
@[simp] theorem b8N : f9 i d ρ = some (ρ.set i (some (.val d))) := rfl
@[simp] theorem b0N {n : Nat} {ts : List T} : start0 n ts = ts.map some ++ List.replicate (n - ts.length) none := rfl
theorem b1S {n : Nat} {ts : List T} : fnL n g ts S = (match g (start0 n ts) S with | .nx _ S' => .ok (.val .none) S' | .rt t S' => .ok t S' | .ex e _ S' => .exc e S' | _ => .bad) := rfl
-- operators
@[simp] theorem b96 {i j : Int} : B2 (.int i) (.int j) = some (.val (.int (i + j))) := rfl
@[simp] theorem b8y {i j : Int} : gSub (.int i) (.int j) = some (.val (.int (i - j))) := rfl
theorem N6 {i j : Int} (h : i.natAbs.log2 + j.natAbs.log2 < 1000000) : C5 (.int i) (.int j) = some (.val (.int (i * j))) := by
 show (if a9L i j then _ else _) = _
 rw [if_pos (by unfold a9L; exact decide_eq_true h)]
theorem a42 {i j : Int} (h : 0 < j) (h2 : j.natAbs.log2 < 9000) : b2M (.int i) (.int j) = some (.val (.int (i / j))) := by
 show (if b1O j then _ else _) = _
 rw [if_pos (by unfold b1O; simp [h, h2])]
theorem b3D {i j : Int} (h : 0 < j) : a5K (.int i) (.int j) = some (.val (.int (i % j))) := by
 show (if decide (0 < j) then _ else _) = _
 rw [if_pos (decide_eq_true h)]
theorem a4q {i j : Int} (h : 0 ≤ j) (h2 : j ≤ 1000000) (h3 : i.natAbs < 2 ^ 64) : a2e (.int i) (.int j) = some (.val (.int (i ^ j.toNat))) := by
 show (if decide _ then _ else _) = _
 rw [if_pos (decide_eq_true ⟨h, h2, h3⟩)]
@[simp] theorem c0R {i j : Int} : gLt (.int i) (.int j) = some (.val (.bool (decide (i < j)))) := rfl
@[simp] theorem b97 {i j : Int} : gGt (.int i) (.int j) = some (.val (.bool (decide (j < i)))) := rfl
@[simp] theorem c0F {i j : Int} : gGe (.int i) (.int j) = some (.val (.bool (decide (j ≤ i)))) := rfl
@[simp] theorem b9h {i : Int} : a1v (.int i) = some (.val (.int (-i))) := rfl
@[simp] theorem c0E {i j : Int} : gEq false (.int i) (.int j) = some (.val (.bool (decide (i = j)))) := by
 show some (T.val (.bool (PyData.eqv (.int i) (.int j)))) = _
 simp [PyData.eqv]
 try rfl
@[simp] theorem b98 {i j : Int} : gEq true (.int i) (.int j) = some (.val (.bool (decide (i ≠ j)))) := by
 show some (T.val (.bool (!PyData.eqv (.int i) (.int j)))) = _
 simp [PyData.eqv]
 try rfl
@[simp] theorem c12 : b2B d = some (.val (.bool (isNone d))) := rfl
@[simp] theorem c07 : V0 d = some (.val (.bool (!isNone d))) := rfl
@[simp] theorem c0S : isNone .none = true := rfl
@[simp] theorem c1h {i : Int} : isNone (.int i) = false := rfl
@[simp] theorem c01 {i : Bool} : isNone (.bool i) = false := rfl
@[simp] theorem c1p {i : Str} : isNone (.str i) = false := rfl
@[simp] theorem c0n {i} : isNone (.list i) = false := rfl
@[simp] theorem b9M {i} : isNone (.tuple i) = false := rfl
@[simp] theorem C2 {xs : List D} {j : Int} : gIx (.list xs) (.int j) = (atI xs j).map T.val := rfl
@[simp] theorem c0t {xs : List D} {j : Int} : gIx (.tuple xs) (.int j) = (atI xs j).map T.val := rfl
@[simp] theorem b3k {x : Str} {j : Int} : gIx (.str x) (.int j) = (atI x.cps.toList j).map fun c => .val (.str ⟨#[c]⟩) := rfl
@[simp] theorem c1S {i : Int} : b5N [.int i] = some (.val (.int (if i < 0 then -i else i))) := rfl
@[simp] theorem c17 {i j : Int} : a3k [.int i, .int j] = some (.val (.int (if j < i then j else i))) := rfl
@[simp] theorem c1o {i j : Int} : a4d [.int i, .int j] = some (.val (.int (if j > i then j else i))) := rfl
@[simp] theorem v7 {xs : List D} : a2g [.list xs] = some (.val (.int xs.length)) := rfl
@[simp] theorem b8T {xs : List D} : a2g [.tuple xs] = some (.val (.int xs.length)) := rfl
@[simp] theorem b9R {x : Str} : a2g [.str x] = some (.val (.int x.length)) := rfl
@[simp] theorem b7j {xs : List D} : a0a [.list xs] = some (.val (.tuple xs)) := rfl
@[simp] theorem b7o {xs : List D} : a0a [.tuple xs] = some (.val (.tuple xs)) := rfl
@[simp] theorem b7X {xs : List D} : a8Z [.list xs] = some (.own xs) := rfl
@[simp] theorem b8h {xs : List D} : a8Z [.tuple xs] = some (.own xs) := rfl
@[simp] theorem c1Q {b : Bool} : b1j (.bool b) = some b := rfl
@[simp] theorem c1Z {i : Int} : b1j (.int i) = some (i != 0) := rfl
@[simp] theorem c2b : b1j .none = some false := rfl
@[simp] theorem c11 {x : Str} : b1j (.str x) = some (x.length != 0) := rfl
@[simp] theorem c2a {x} : b1j (.list x) = some (!x.isEmpty) := rfl
@[simp] theorem c1f {x} : b1j (.tuple x) = some (!x.isEmpty) := rfl
end
theorem a0K (bs : List Int) : F0 (bs.map PyData.int) = some bs := by
 induction bs with
 | nil => rfl
 | cons b bs ih => simp [F0, ih]
@[simp] theorem c0f {Ty : String} {g : D → List D → Option T} {f : SE} {fs : SU} {ρ : En} {S : Sto} : b1y Ty g f fs ρ S = R.d (f ρ S) fun d S1 => if a8Y Ty d = true then R.l (fs ρ S1) fun ds S2 => (match g d ds with | some t => .ok t S2 | none => .bad) else .bad := rfl
@[simp] theorem c16 {x : Str} : a8Y "str" (.str x) = true := rfl
@[simp] theorem c13 {xs : List D} : a8Y "list" (.list xs) = true := rfl
@[simp] theorem b91 {xs : List D} : b74 (.list xs) = some (.own xs.reverse) := rfl
@[simp] theorem b8a {x : Str} : b5y (.str x) = some (x.cps.toList.map fun c => .str ⟨#[c]⟩) := rfl
theorem X9 {n : Nat} {i : Int} (h0 : 0 ≤ i) (h1 : i < n) : ixN n i = some i.toNat := by
 unfold L2.ixN
 simp only [h0, if_true]
 rw [if_pos (by omega)]
theorem a9K {α : Type} {xs : List α} {i : Int} (h0 : 0 ≤ i) (h1 : i < xs.length) : ∃ v, atI xs i = some v ∧ xs[i.toNat]? = some v := by
 unfold L2.atI
 rw [X9 h0 h1]
 have h : i.toNat < xs.length := by omega
 exact ⟨xs[i.toNat], List.getElem?_eq_getElem h, List.getElem?_eq_getElem h⟩
theorem u9 {α : Type} {xs : List α} {i : Nat} {v : α} (h : xs[i]? = some v) : atI xs (i : Int) = some v := by
 unfold L2.atI
 rw [X9 (by omega) (by have := (List.getElem?_eq_some_iff.mp h).1; omega)]
 exact h
theorem v5 {b : BT1} {body : SS} (I : Nat → En → Sto → Prop) : ∀ (ds : List D) (k : Nat) (ρ : En) (S : Sto), I k ρ S →
  (∀ i d ρ S, ds[i]? = some d → I (k + i) ρ S → ∃ ρ1, b d ρ = some ρ1 ∧ ∃ ρ2 S2, (body ρ1 S = .nx ρ2 S2 ∨ body ρ1 S = .ct ρ2 S2) ∧ I (k + i + 1) ρ2 S2) →
  ∃ ρ' S', a7J b body ds ρ S = .nx ρ' S' ∧ I (k + ds.length) ρ' S'
 | [], k, ρ, S, h, _ => ⟨ρ, S, rfl, h⟩
 | d :: ds, k, ρ, S, h, st => by
  obtain ⟨ρ1, e1, ρ2, S2, e2, h2⟩ := st 0 d ρ S rfl h
  have ih := v5 I ds (k + 1) ρ2 S2 h2 fun i d' ρ' S' e h' => by
   have := st (i + 1) d' ρ' S' (by simpa using e) (by rw [show k + (i + 1) = k + 1 + i by omega]; exact h')
   rw [show k + (i + 1) = k + 1 + i by omega] at this
   exact this
  obtain ⟨ρ', S', e3, h3⟩ := ih
  refine ⟨ρ', S', ?_, by rw [List.length_cons, show k + (ds.length + 1) = k + 1 + ds.length by omega]; exact h3⟩
  unfold a7J
  rw [e1]
  rcases e2 with e2 | e2
  ·simp only [e2]; exact e3
  ·simp only [e2]; exact e3
theorem a5y {b : BT1} {tt : SB} {elt : SE} {ρ : En} (I : Nat → List D → Sto → Prop) : ∀ (ds : List D) (k : Nat) (ys : List D) (S : Sto), I k ys S →
  (∀ i d ys S, ds[i]? = some d → I (k + i) ys S → ∃ ρ1, b d ρ = some ρ1 ∧ ((∃ S1, tt ρ1 S = .ok false S1 ∧ I (k + i + 1) ys S1) ∨ ∃ S1 t S2 x, tt ρ1 S = .ok true S1 ∧ elt ρ1 S1 = .ok t S2 ∧ asD t = some x ∧ I (k + i + 1) (ys ++ [x]) S2)) →
  ∃ xs S', lcM b tt elt ρ ds S = .ok xs S' ∧ I (k + ds.length) (ys ++ xs) S'
 | [], k, ys, S, h, _ => ⟨[], S, rfl, by rw [List.append_nil]; exact h⟩
 | d :: ds, k, ys, S, h, st => by
  obtain ⟨ρ1, e1, h1⟩ := st 0 d ys S rfl h
  have st' : ∀ i d' ys' S', ds[i]? = some d' → I (k + 1 + i) ys' S' → ∃ ρ1, b d' ρ = some ρ1 ∧ ((∃ S1, tt ρ1 S' = .ok false S1 ∧ I (k + 1 + i + 1) ys' S1) ∨ ∃ S1 t S2 x, tt ρ1 S' = .ok true S1 ∧ elt ρ1 S1 = .ok t S2 ∧ asD t = some x ∧ I (k + 1 + i + 1) (ys' ++ [x]) S2) := fun i d' ys' S' e h' => by
   have := st (i + 1) d' ys' S' (by simpa using e) (by rw [show k + (i + 1) = k + 1 + i by omega]; exact h')
   rw [show k + (i + 1) = k + 1 + i by omega] at this
   exact this
  have el : k + (d :: ds).length = k + 1 + ds.length := by rw [List.length_cons]; omega
  rcases h1 with ⟨S1, e2, h2⟩ | ⟨S1, t, S2, x, e2, e3, e4, h2⟩
  ·obtain ⟨xs, S', e5, h5⟩ := a5y I ds (k + 1) ys S1 h2 st'
   refine ⟨xs, S', ?_, by rw [el]; exact h5⟩
   unfold lcM
   simp only [e1, e2]
   exact e5
  ·obtain ⟨xs, S', e5, h5⟩ := a5y I ds (k + 1) (ys ++ [x]) S2 h2 st'
   refine ⟨x :: xs, S', ?_, by rw [el]; rw [List.append_assoc] at h5; exact h5⟩
   unfold lcM
   simp only [e1, e2, e3, e4, e5, M4]
end BV
namespace BV
open PySem PySem.Spec PyProof.Rows L2
open He (ba eqO eqO_ok ga)

section
variable {G : Cc} {W : WX} {o o1 : Gh} {c c1 : Cs} {ρ : En} {S : Sto} {σ : L2.St} {H H1 : Hp} {pos p xp cp np ap tp : Pos} {hx : a4f} {i : Nat} {n : Str} {Q : VK}
end
end BV
namespace BV
open PySem PySem.Spec PyProof.Rows L2
open He (ba eqO eqO_ok ga)

section
variable {G : Cc} {W : WX} {o o1 : Gh} {c c1 : Cs} {ρ : En} {S : Sto} {σ : L2.St} {H H1 : Hp} {pos p xp cp np ap tp : Pos} {hx : a4f} {i : Nat} {n : Str} {Q : VK}
end

section
variable {P : Program} {w : World} {K : PySem.W.Frag} {mg : Str → Option Value} {base : Heap} {cn : Bool} {k : Nat} {x qual : Str} {st : Stmt} {f : Addr} {fd : FuncData} {N ps : List Str} {sc : Scope}
end
section
variable {X : Cx} {f : Addr} {fd : FuncData} {ps : List Str} {x : Str} {q pos : Pos} {e : Expr} {es : List Expr} {t : TA} {k n : Nat} {g : a4f → Fn} {E : L2.St → XK} {hx : a4f}
end
section
variable {G : Cc} {pos : Pos} {e : Expr} {es : List Expr} {hx : a4f}
end

section
variable {G : Cc} {pos : Pos}
end
def I5 (d : D) : List D → Option Nat
 | [] => none
 | e :: r => if PyData.eqv e d = true then some 0 else (I5 d r).map (· + 1)
theorem a3m {d : D} : ∀ {ds : List D} {j : Nat}, I5 d ds = some j → ∃ z, ds[j]? = some z ∧ PyData.eqv z d = true ∧ ∀ (m : Nat) (z' : D), m < j → ds[m]? = some z' → PyData.eqv z' d = false := by
 intro ds
 induction ds with
 | nil => intro j h; cases h
 | cons e r ih =>
  intro j h
  unfold I5 at h
  by_cases q : PyData.eqv e d = true
  ·rw [if_pos q] at h
   cases h
   exact ⟨e, rfl, q, fun m z' hm => absurd hm (Nat.not_lt_zero m)⟩
  ·rw [if_neg q] at h
   cases e1 : I5 d r with
   | none => rw [e1] at h; cases h
   | some j' =>
    rw [e1] at h
    cases h
    obtain ⟨z, h1, h2, h3⟩ := ih e1
    refine ⟨z, by simpa using h1, h2, fun m z' hm hz => ?_⟩
    cases m with
    | zero =>
     simp only [List.getElem?_cons_zero, Option.some.injEq] at hz
     subst hz
     exact Bool.eq_false_iff.mpr q
    | succ m => exact h3 m z' (by have : m + 1 < j' + 1 := hm; omega) (by simpa using hz)
def a15 : D → List D → Option T
 | .list ds, [d] => if I7 (.list ds) && I7 d then (I5 d ds).map fun j => .val (.int (j : Nat)) else none
 | _, _ => none
section
variable {G : Cc}
theorem b0h : MD G "list" "index" a15 := ⟨"list.index", _, PySem.F.plainAttrs_list, PySem.F.slot_list_index, PySem.F.type_list_index, fun X W k => by have := mt_indexD (X := X) (by have := k.room.un; omega); rw [k.K] at this; exact this, by
 intro G' W o c ρ S σ H x d vs ds t Q hK rs r ra e p
 rw [← hK] at r ra ⊢
 unfold a15 at e
 split at e
 ·split at e
  ·rename_i hh
   cases e1 : I5 _ _ with
   | none => rw [e1] at e; cases e
   | some j =>
    rw [e1] at e
    cases e
    rw [Bool.and_eq_true] at hh
    have n1 := hh.1
    have n2 := hh.2
    unfold I7 at n1 n2
    rw [Bool.and_eq_true] at n1 n2
    obtain ⟨v, rfl, rv⟩ := ra.one
    obtain ⟨a, ws, e1', h1, _⟩ := r.lstV
    subst e1'
    obtain ⟨z, z1, z2, z3⟩ := a3m e1
    exact ⟨a, v, _, _, j, z, rfl, rfl, r.dp n1.1, rv.dp n2.1, m8 r hh.1, m8 rv hh.2, z1, z2, z3, f8 (hK ▸ rs) p (.int _)⟩
  ·cases e
 ·cases e⟩
end
end BV
namespace BV
open PySem PySem.Spec PyProof.Rows L2

def b9t (K : PySem.W.Frag) : List V → Hp → VK → Prop := fun vs H Q => ∃ (a : Addr) (us : List V) (d : D) (ds : List D), vs = [V.ref a] ∧ SqL K H a us ∧ DpAll K H us (d :: ds) ∧ W.AlikeAll (d :: ds) ∧ PyData.depthAll (d :: ds) ≤ 20 ∧
 ∀ (i : Nat) (v : V), us[i]? = some v → (d :: ds)[i]? = some (W.minD d ds) → Q v H
section
variable {X : Cx}
theorem b3C (hc : X.calm = true) (hu : X.A.units + 64 < cLine) : CallR X (.builtin "min") (b9t X.K) := by
 intro pins s σ H vs us Q I r h
 obtain ⟨a, xs, d, ds, rfl, hs, hd, ha, hdp, q⟩ := h
 obtain ⟨its, rv, hl, _⟩ := I.list hs
 rw [Vals.ref1 r]
 obtain ⟨as, hr⟩ := Dp.readsAll I (d :: ds) xs its hd rv
 refine W.min_list_data (as := as) (I.ok.hd hc) hl.isList (by simpa using hr) ha (by omega) fun i v h' tk bs e rd k => ?_
 have e' : its[i]? = some v := by simpa using e
 obtain ⟨bs2, r2, hi, _, _⟩   := W.readsAll_at hr i v e'
 obtain ⟨e3, _⟩ := Reads.unique (PyProof.Rows.Reads.keeps k r2) _ _ rd
 obtain ⟨u, hu1, hu2⟩ : ∃ u, xs[i]? = some u ∧ RelV u v := by
  have hl2 := (List.getElem?_eq_some_iff.mp e').1
  have hx : i < xs.length := by rw [rv.length]; exact hl2
  obtain ⟨w, h1, h2⟩ := Vals.get rv (List.getElem?_eq_getElem hx)
  rw [e'] at h1
  cases h1
  exact ⟨_, List.getElem?_eq_getElem hx, h2⟩
 exact ⟨u, H, I.kept k, hu2, q i u hu1 (by rw [List.getElem?_eq_getElem hi]; rw [List.getD_eq_getElem?_getD, List.getElem?_eq_getElem hi] at e3; simpa using e3)⟩
end
section
variable {G : Cc}
end
end BV
namespace BV
open PySem PySem.Spec PyProof.Rows L2
def b5K : D → Bool
 | .tuple [.int _, .tuple [.int _, .int _]] => true
 | _ => false
theorem b5b {d : D} (h : b5K d = true) : ∃ a b c : Int, d = .tuple [.int a, .tuple [.int b, .int c]] := by
 unfold b5K at h
 split at h
 ·exact ⟨_, _, _, rfl⟩
 ·cases h
def a7S : List D → Option T
 | [.list (d :: ds)] => if (d :: ds).all b5K = true then some (.val (W.minD d ds)) else none
 | _ => none
theorem b4W {xs : List D} (h : xs.all b5K = true) : W.AlikeAll xs ∧ PyData.depthAll xs ≤ 20 ∧ w9 xs = true := by
 rw [List.all_eq_true] at h
 have is : ∀ x ∈ xs, ∃ a b c : Int, x = .tuple [.int a, .tuple [.int b, .int c]] := fun x hx => b5b (h x hx)
 refine ⟨⟨fun x hx y hy => ?_, fun x hx => ?_⟩, ?_, ?_⟩
 ·obtain ⟨a, b, c, rfl⟩ := is x hx
  obtain ⟨a', b', c', rfl⟩ := is y hy
  rfl
 ·obtain ⟨a, b, c, rfl⟩ := is x hx
  intro z
  cases z
 ·clear h
  induction xs with
  | nil => simp [PyData.depthAll]
  | cons x xs ih =>
   obtain ⟨a, b, c, rfl⟩ := is _ (List.mem_cons_self ..)
   have h1 := ih fun y hy => is y (List.mem_cons_of_mem _ hy)
   simp only [PyData.depthAll, PyData.depth]
   omega
 ·clear h
  induction xs with
  | nil => rfl
  | cons x xs ih =>
   obtain ⟨a, b, c, rfl⟩ := is _ (List.mem_cons_self ..)
   rw [w9, ih fun y hy => is y (List.mem_cons_of_mem _ hy)]
   rfl
section
variable {G : Cc}
theorem b3P (hcm : G.hot = none := by rfl) : BF G "min" a7S := ⟨"min", _, by first | exact boot_min | exact PyProof.Rows.boot_min, fun X W k => by have := b3C (X := X) (k.calm hcm) k.units; rw [k.K] at this; exact this, by
 intro G' W o c ρ S σ H vs ds t Q hK rs r e p
 rw [← hK] at r ⊢
 unfold a7S at e
 split at e
 ·rename_i d es
  obtain ⟨v, rfl, r'⟩ := r.one
  split at e
  ·rename_i hh
   cases e
   obtain ⟨a, us, e1, h1, _, z1, ra⟩ := r'.lstV
   subst e1
   obtain ⟨h2, h3, h4⟩ := b4W hh
   refine ⟨a, us, d, es, rfl, .inl (.of h1), ra.dp h4, h2, h3, fun i v hv hi => ?_⟩
   obtain ⟨v', e5, rv⟩ := ra.get hi
   rw [hv] at e5
   cases e5
   exact f8 (hK ▸ rs) p rv
  ·cases e
 ·cases e⟩
end
end BV
namespace BV
open PySem PySem.Spec PyProof.Rows L2

section
variable {X : Cx} {pins : List (Addr × Obj)} {σ : L2.St} {H : Hp} {s : Shared} {a b : Addr} {v d : V} {u r : Value} {A : Around} {E : Value → Shared → Prop} {kvs : List (List Int × V)} {xs : List (List Int × Addr × Value)} {k : List Int}
theorem b0o {Q : Value → Shared → Prop} (hu : A.units + 1 < cLine) (I : Inv X pins σ H s) (e : HX H a xs) (q : KX X.K H kvs xs) (eb : SqT X.K H b (k.map V.int)) (l : valV kvs k = some v) (h : ∀ w' s', Inv X pins σ H s' → RelV v w' → Q w' s') :
  wpAny (model X.prog X.w) A (getItem (.ref a) (.ref b)) Q E s := by
 have z := q.val k
 rw [l] at z
 cases hf : atKey xs k with
 | none => rw [hf] at z; exact z.elim
 | some p =>
  rw [hf] at z
  exact wpAny_getItem_heap (tupleKind_room_in1 hu) (b5u I eb) (dX I e q) hf (h _ _ (I.tok _) z)
def b9S (K : PySem.W.Frag) : R2 := fun x y H Q => ∃ (a b : Addr) (kvs : List (List Int × V)) (xs : List (List Int × Addr × Value)) (k : List Int) (v : V), x = .ref a ∧ y = .ref b ∧ HX H a xs ∧ KX K H kvs xs ∧ SqT K H b (k.map V.int) ∧ valV kvs k = some v ∧ Q v H
theorem c1P (hu : X.A.units + 1 < cLine) : IxR X (b9S X.K) := by
 intro value slice pins s σ H x y v u Q I rx ry h hs
 obtain ⟨a, b, kvs, xs, k, w, rfl, rfl, e, g, eb, l, q⟩ := h
 cases (show v = Value.ref a from rx)
 cases (show u = Value.ref b from ry)
 have hT : s.TypeIs (.ref a) "dict" := (dX I e g).typeIs
 unfold subscriptTail
 refine wpAny_bind ?_
 rw [getitemInPython_of_ne hT.not_modules]
 refine wpAny_bind (wpAny_specialOf hT PySem.F.slot_dict_getitem.lookup ?_)
 have fin : wpAny (model X.prog X.w) X.A (subscripted slice false (Value.ref a) (Value.ref b)) (fun r s' => wpAny (model X.prog X.w) X.A (letTemporaryGo value (Value.ref a) r >>= fun _ => pure r) (EP X pins σ Q) X.xe s') X.xe s := by
  rw [hs]
  exact wpAny_operating (b0o hu I e g eb l fun w' s' I' rw' => wpAny_bind (wpAny_letTemporaryGo (wpAny_pure ⟨w, H, I', rw', q⟩)))
 first
  | exact wpAny_pure (wpAny_bind fin)
  | exact wpAny_bind (wpAny_pure (wpAny_bind fin))
  | exact wpAny_bind fin
def leP (p q : Int × Int) : Bool := !SrtO.lexB q p
theorem c1k : b6T leP where
 total a b := by
  unfold leP
  cases h : SrtO.lexB b a with
  | false => exact .inl rfl
  | true => right; rw [SrtO.lexB_no.mpr (by have := SrtO.lexB_iff.mp h; omega)]; rfl
 trans a b c h1 h2 := by
  unfold leP at *
  simp only [Bool.not_eq_true'] at *
  have x := SrtO.lexB_no.mp h1
  have y := SrtO.lexB_no.mp h2
  exact SrtO.lexB_no.mpr (by omega)
 anti a b h1 h2 := by
  unfold leP at *
  simp only [Bool.not_eq_true'] at *
  have x := SrtO.lexB_no.mp h1
  have y := SrtO.lexB_no.mp h2
  exact Prod.ext (by omega) (by omega)
abbrev a9J : List (Int × Int) → List (Int × Int) := a5h leP
def A7 (p : Int × Int) : List Int := [p.1, p.2]
def c0d (K : PySem.W.Frag) (H : Hp) (v : V) (p : Int × Int) : Prop := ∃ b, v = .ref b ∧ SqT K H b [.int p.1, .int p.2]
def b1p (K : PySem.W.Frag) : List V → Hp → VK → Prop := fun vs H Q => ∃ (a : Addr) (kvs : List (List Int × V)) (xs : List (List Int × Addr × Value)) (ps : List (Int × Int)), vs = [.ref a] ∧ HX H a xs ∧ KX K H kvs xs ∧ (a == sysModules) = false ∧ kvs.map (·.1) = ps.map A7 ∧ ps.length ≤ 10000 ∧
 ∀ (zs : List V) (ys : List (Int × Int)) (p : Addr), Paired (c0d K H) zs ys → ys.Perm ps → ys.Pairwise (fun a b => leP a b = true) → H p = none → Q (.ref p) (upd H p (.lst zs))
theorem a9W {α β : Type} {R : α → β → Prop} : ∀ {xs : List α} {ys : List β}, Paired R xs ys → ∀ x ∈ xs, ∃ y, y ∈ ys ∧ R x y
 | _, _, .nil, x, h => nomatch h
 | _, _, .cons h t, x, hx => by
  rcases List.mem_cons.mp hx with e | hx
  ·subst e; exact ⟨_, List.mem_cons_self .., h⟩
  ·obtain ⟨y, h1, h2⟩ := a9W t x hx
   exact ⟨y, List.mem_cons_of_mem _ h1, h2⟩
theorem a5V {h : Heap} {v : Value} {x y x' y' : Int} (p : Srt.IsPair h v x y) (q : Srt.IsPair h v x' y') : x = x' ∧ y = y' := by
 obtain ⟨a, o, t, u, n, e, ho, hc, hd⟩ := p
 obtain ⟨a', o', t', u', n', e', ho', hc', hd'⟩ := q
 subst e
 cases e'
 rw [ho] at ho'
 cases ho'
 rw [hd] at hd'
 injection hd' with z1 z2
 have z3 : [Value.int x t, Value.int y u] = [Value.int x' t', Value.int y' u'] := congrArg Array.toList z1
 injection z3 with z4 z5
 injection z5 with z6 z7
 injection z4 with z8 z9
 injection z6 with z10 z11
 exact ⟨z8, z10⟩
theorem Y9 {p : Int × Int} (I : Inv X pins σ H s) (e : SqT X.K H b [.int p.1, .int p.2]) : Srt.IsPair s.heap (.ref b) p.1 p.2 := by
 obtain ⟨its, r, ⟨o, h1, h2, n, h3⟩, _⟩ := I.tuple e
 obtain ⟨u1, u2, rfl, ri, rj⟩ := vals2 r
 obtain ⟨t1, rfl⟩ := ri
 obtain ⟨t2, rfl⟩ := rj
 exact ⟨b, o, t1, t2, n, rfl, h1, h2, h3⟩
open Classical in
noncomputable def M6 (h : Heap) (v : Value) : Int × Int := if e : ∃ p : Int × Int, Srt.IsPair h v p.1 p.2 then Classical.choose e else (0, 0)
theorem a0j {h : Heap} {v : Value} {p : Int × Int} (q : Srt.IsPair h v p.1 p.2) : M6 h v = p := by
 have e : ∃ p : Int × Int, Srt.IsPair h v p.1 p.2 := ⟨p, q⟩
 unfold M6
 rw [dif_pos e]
 have z := a5V (Classical.choose_spec e) q
 exact Prod.ext z.1 z.2
theorem KX.refs {K : PySem.W.Frag} : ∀ {kvs : List (List Int × V)} {xs : List (List Int × Addr × Value)} {ps : List (Int × Int)}, KX K H kvs xs → kvs.map (·.1) = ps.map A7 → Paired (fun (x : List Int × Addr × Value) (p : Int × Int) => SqT K H x.2.1 [.int p.1, .int p.2]) xs ps
 | [], _, [], .nil, _ => .nil
 | [], _, _ :: _, .nil, h => by cases h
 | _ :: _, _, [], _, h => by cases h
 | kv :: kvs, _, p :: ps, .cons h t, e => by
  rw [List.map_cons, List.map_cons] at e
  injection e with e1 e2
  refine .cons ?_ (KX.refs t e2)
  have := h.2.1
  rw [e1] at this
  exact this
theorem a24 (hcalm : X.calm = true) : CallR X (.builtin "sorted") (b1p X.K) := by
 intro pins s σ H vs us Q I r h
 obtain ⟨a, kvs, xs, ps, ex, hH, kx, lo, hks, hps, q⟩ := h
 subst ex
 obtain ⟨u, eu, rx⟩ := vals1 r
 subst eu
 cases rx
 have pr := kx.refs hks
 have hlen : xs.length = ps.length := Paired.length pr
 obtain ⟨ep, hH⟩ := hH
 obtain ⟨o, es, g1, g2, g3, g4, g5⟩ := (show ObjOk X.prog X.w H s.heap a (.ext (tdf ep a xs)) from I.hok a _ hH).1
 have hat : s.heap.DictRaw a es ep := ⟨o, g1, g2, g3⟩
 have hes : es.size = xs.length := by rw [← Array.length_toList, g4, List.length_map]
 have h16 : es.size ≤ sizeLine := by rw [hes, hlen, sizeLine_eq]; omega
 refine Calls.call_function_entry PyProof.Rows.kind_sorted PyProof.Rows.plain_sorted PyProof.Rows.entry_sorted (PyProof.Rows.args_sorted1 _) ?_
 unfold Builtin.«sorted»
 refine wpAny_bind (m := checkCount "sorted" 1 1 _) (wpAny_pure ?_)
 refine wpAny_bind (PySem.W.kdu_collect (A := X.A.in1) (PySem.KdlSrc.rawDict (es := es) (ep := ep) lo) (I.ok.hd hcalm) hat h16 fun h' tk acc hk hacc => ?_)
 have I1 : Inv X pins σ H { s with heap := h', toks := tk } := I.kept hk
 have hal : acc.toList = xs.map fun x => Value.ref x.2.1 := by
  refine List.ext_getElem? fun j => ?_
  rw [List.getElem?_map]
  cases hj : xs[j]? with
  | none =>
   have : acc.toList.length ≤ j := by
    rw [Array.length_toList, hacc.1, hes]
    exact List.getElem?_eq_none_iff.mp hj
   rw [List.getElem?_eq_none this]
   rfl
  | some x =>
   have hjl : j < xs.length := (List.getElem?_eq_some_iff.mp hj).1
   have hja : j < acc.size := by rw [hacc.1, hes]; exact hjl
   obtain ⟨hi, e2⟩ := hacc.2 j acc[j] (by rw [Array.getElem?_eq_getElem hja])
   have e3 : es.toList[j]? = some (b77 x) := by rw [g4, List.getElem?_map, hj]; rfl
   have e4 : es[j] = b77 x := by
    rw [Array.getElem?_toList, Array.getElem?_eq_getElem hi] at e3
    exact Option.some.inj e3
   rw [Array.getElem?_toList, Array.getElem?_eq_getElem hja, e2, e4]
   rfl
 have hl2 : acc.toList.length = ps.length := by rw [hal, List.length_map, hlen]
 have hz : acc.toList.length ≤ sizeLine := by rw [hl2, sizeLine_eq]; omega
 have hp : ∀ v ∈ acc.toList, ∃ (b : Addr) (p : Int × Int), v = .ref b ∧ SqT X.K H b [.int p.1, .int p.2] := fun v hv => by
  rw [hal] at hv
  obtain ⟨x, hx, rfl⟩ := List.mem_map.mp hv
  obtain ⟨p, _, hq⟩ := a9W pr x hx
  exact ⟨x.2.1, p, rfl, hq⟩
 have hkv : acc.toList.map (M6 h') = ps := by
  rw [hal, List.map_map]
  clear hal hl2 hz hp hacc
  revert pr
  clear hlen hes h16 hat g1 g4 g5 kx hks hps hH q
  intro pr
  induction pr with
  | nil => rfl
  | @cons x p xs ps h t ih => rw [List.map_cons, ih]; congr 1; exact a0j (Y9 I1 h)
 refine wpAny_bind (wpAny_newList ?_ hz)
 have hoL : (h'.push (seqObj "list" acc.toList.toArray 0)).get? h'.objs.size = some (seqObj "list" acc.toList.toArray 0) := Heap.get?_push_size _ rfl
 show wpAny _ _ _ _ _ { s with heap := h'.push (seqObj "list" acc.toList.toArray 0), toks := tk }
 have hpair : ∀ v ∈ acc.toList, Srt.IsPair (h'.push (seqObj "list" acc.toList.toArray 0)) v (M6 h' v).1 (M6 h' v).2 := fun v hv => by
  obtain ⟨b, p, rfl, hq⟩ := hp v hv
  have := Y9 I1 hq
  rw [a0j this]
  exact this.keeps fun b o e _ => Heap.get?_push_of_some _ e
 refine wpAny_bind (wpAny_holding (wpAny_call_entry PyProof.Rows.slot_list_sort ⟨_, hoL, rfl⟩ PyProof.Rows.entry_list_sort
  (SrtO.list_sort_ord (s := { s with heap := h'.push (seqObj "list" acc.toList.toArray 0), toks := tk }) (SrtO.swo_lex (M6 h')) hoL hz (fun h2 => SrtO.pairs_sortableO (by omega) hpair fun o e c => by
   have e' : some o = some (seqObj "list" acc.toList.toArray 0) := e.symm.trans hoL
   cases e'
   exact absurd (Value.type.inj c) (by decide)) fun out g1 g2 => ⟨_, rfl, ?_⟩) (PyProof.Rows.args_list_sort _)))
 obtain ⟨e', he'⟩ := PyProof.Rows.sortedHeap_at (vs := acc.toList) (out := out.toArray) hoL
 have hmem : ∀ v ∈ out, v ∈ acc.toList := fun v hv => g2.perm.mem_iff.mp hv
 have hz2 : (out.map backV).length ≤ sizeLine := by rw [List.length_map, g2.perm.length_eq]; exact hz
 refine wpAny_pure ⟨_, rfl, .ref h'.objs.size, upd H h'.objs.size (.lst (out.map backV)), I1.laid (t' := tk) (fun b u e => ?_) (Nat.le_refl _)
  (show ObjOk X.prog X.w _ _ _ (.lst (out.map backV)) from ⟨hz2, out, e', vals_back (fun v hv => by obtain ⟨b, _, e, _⟩ := hp v (hmem v hv); exact ⟨b, e⟩), he'⟩), rfl, q (out.map backV) (out.map (M6 h')) _ ?_ ?_ ?_ (I1.hok.fresh (Nat.le_refl _))⟩
 ·have hb : b < h'.objs.size := Heap.lt_size e
  rw [PyProof.Rows.sortedHeap_old (Nat.ne_of_lt hb) (by rw [size_push']; exact Nat.lt_succ_of_lt hb)]
  exact Heap.get?_push_of_some _ e
 ·clear hz2 he' g1 g2
  induction out with
  | nil => exact .nil
  | cons v out ih =>
   refine .cons ?_ (ih fun v hv => hmem v (List.mem_cons_of_mem _ hv))
   obtain ⟨b, p, rfl, hq⟩ := hp v (hmem v (List.mem_cons_self ..))
   rw [a0j (Y9 I1 hq)]
   exact ⟨b, rfl, hq⟩
 ·have := g2.perm.map (M6 h')
  rw [hkv] at this
  exact this
 ·refine List.pairwise_map.mpr (g1.imp fun {x y} h => ?_)
  have h' : SrtO.lexB (M6 h' y) (M6 h' x) = false := h
  unfold leP
  rw [h']
  rfl
end
section
variable {G : Cc} {W : WX} {o o1 : Gh} {c c1 : Cs} {ρ : En} {σ : L2.St} {H : Hp} {S : Sto} {pos apos cpos : Pos} {a b : Expr} {f1 f2 f3 : SE}
theorem c1b {K : PySem.W.Frag} {x y : V} {kvs : List (D × D)} {kd : D} {od : Option D} (r : RepU K o H x (.dict kvs)) (r2 : RepU K o H y kd) (hq : (unD kvs).1 = true) (h : a7b kvs kd = some od) :
  ∃ (a b : Addr) (l : List (List Int × V)) (xs : List (List Int × Addr × Value)) (k : List Int), x = .ref a ∧ y = .ref b ∧ HX H a xs ∧ KX K H l xs ∧ (a == sysModules) = false ∧ SqT K H b (k.map V.int) ∧ (∀ d, od = some d → ∃ v, valV l k = some v ∧ Rep K o H v d) ∧ (od = none → valV l k = none) := by
 obtain ⟨qq, a, ks, vs, ds, rfl, hd, _, hz, hl, ra, e⟩ := r.dctV
 have hu := hd.un (ds := ds)
 rw [← e] at hu
 rw [hu] at hq
 have hq : qq = true := hq
 subst hq
 unfold a7b at h
 cases ek : keyOf kd with
 | none => rw [ek] at h; cases h
 | some k =>
  rw [ek, hu] at h
  dsimp only at h
  split at h
  ·rename_i hc
   have hc : a2h k = true := by
    rw [Bool.or_eq_true, Bool.and_eq_true] at hc
    rcases hc with hc | ⟨_, hc⟩
    ·cases k <;> cases hc
    ·exact hc
   obtain ⟨ns, rfl⟩ := R8 hc
   have h' := Option.some.inj h
   obtain ⟨kvs', xs, hH, kx, hs, rfl, rfl⟩ := hd
   have ey := O4 ek
   subst ey
   obtain ⟨b, us, rfl, sb, _, rb⟩ := r2.tupV
   have eu : us = ns.map V.int := X6 rb
   subst eu
   obtain ⟨g1, g2⟩ := X1 (fun k => .tuple (k.map PyData.int)) F9 w4 J7 ns kvs' ds ra
   rw [h'] at g1 g2
   exact ⟨a, b, kvs', xs, ns, rfl, rfl, hH, kx, hs, sb, g1, g2⟩
  ·cases h
def a9t : D → D → Option T
 | .dict kvs, k => if (unD kvs).1 = true then (a7b kvs k).bind fun o => o.map T.val else none
 | _, _ => none
theorem b5l (K : PySem.W.Frag) : OpD K (b9S K) a9t := by
 intro G W o c ρ S σ H x y a b t Q hK rs r1 r2 e p
 subst hK
 cases a with
 | dict kvs =>
  have e : (if (unD kvs).1 = true then (a7b kvs b).bind fun o => o.map T.val else none) = some t := e
  split at e
  ·rename_i hq
   cases ed : a7b kvs b with
   | none => rw [ed] at e; cases e
   | some od =>
    rw [ed] at e
    cases od with
    | none => cases e
    | some d =>
     cases e
     obtain ⟨a, b, l, xs, k, rfl, rfl, hH, kx, hs, sb, g1, _⟩ := c1b r1 r2 hq ed
     obtain ⟨v, l1, rv⟩ := g1 d rfl
     exact ⟨a, b, l, xs, k, v, rfl, rfl, hH, kx, sb, l1, f8 rs p rv⟩
  ·cases e
 | _ => cases e
theorem a7o (h1 : UV G a f1) (h2 : UV G b f2) (hs : PlainIx b := by exact fun _ _ => rfl) : EV G (.Subscript a b pos) (d9 a9t f1 f2) := by
 obtain ⟨t1, p1, q1⟩ := h1
 obtain ⟨t2, p2, q2⟩ := h2
 exact ⟨fun W => tOp (b9S G.K) (t1 W) (t2 W), fun X W k => by have := pe_ix (pos := pos) (c1P (X := X) (by have := k.units; omega)) (p1 X W k) (p2 X W k) hs; rw [k.K] at this; exact this, fun W => a6B (q1 W) (q2 W) (b5l _)⟩
def c7 (p : Int × Int) : D := .tuple [.int p.1, .int p.2]
def J3 : List (D × D) → Option (List (Int × Int))
 | [] => some []
 | (.tuple [.int i, .int j], _) :: r => (J3 r).map ((i, j) :: ·)
 | _ => none
def X2 : List D → Option T
 | [.dict kvs] => if (unD kvs).1 = true then (match J3 (unD kvs).2 with
  | some ps => if ps.length ≤ 10000 then some (.own ((a9J ps).map c7)) else none
  | none => none) else none
 | _ => none
theorem R9 : ∀ {kvs : List (D × D)} {ps : List (Int × Int)}, J3 kvs = some ps → kvs.map (·.1) = ps.map c7
 | [], ps, h => by cases h; rfl
 | (k, d) :: kvs, ps, h => by
  unfold J3 at h
  split at h
  ·rename_i e; cases e
  ·rename_i i j x r e
   cases e
   cases e2 : J3 kvs with
   | none => rw [e2] at h; cases h
   | some qs =>
    rw [e2] at h
    cases h
    rw [List.map_cons, R9 e2]
    rfl
  ·cases h
theorem S0 : ∀ {ks : List (List Int)} {ps : List (Int × Int)}, (ks.map fun k => PyData.tuple (k.map PyData.int)) = ps.map c7 → ks = ps.map A7
 | [], [], _ => rfl
 | [], _ :: _, h => by cases h
 | _ :: _, [], h => by cases h
 | k :: ks, p :: ps, h => by
  rw [List.map_cons, List.map_cons] at h
  injection h with h1 h2
  rw [List.map_cons, S0 h2]
  congr 1
  injection h1 with h3
  match k, h3 with
  | [i, j], h3 =>
   injection h3 with h4 h5
   injection h5 with h6 h7
   injection h4 with h8
   injection h6 with h9
   rw [h8, h9]
   rfl
  | [], h3 => cases h3
  | [i], h3 => injection h3 with h4 h5; cases h5
  | i :: j :: l :: r, h3 => injection h3 with h4 h5; injection h5 with h6 h7; cases h7
theorem a3b {K : PySem.W.Frag} : ∀ {zs : List V} {ys : List (Int × Int)}, Paired (c0d K H) zs ys → RepAll K o H zs (ys.map c7)
 | _, _, .nil => .nil
 | _, _, .cons h t => by
  obtain ⟨b, rfl, sb⟩ := h
  exact .cons _ _ _ _ (.tup b _ _ sb (show 2 ≤ sizeLine by decide) (.cons _ _ _ _ (.int _) (.cons _ _ _ _ (.int _) .nil))) (a3b t)
theorem a79 (hcm : G.hot = none := by rfl) : BF G "sorted" X2 := ⟨"sorted", _, by decide +kernel, fun X W k => by
  have := a24 (X := X) (k.calm hcm)
  rw [k.K] at this
  exact this, by
 intro G' W o c ρ S σ H vs ds t Q hK rs r e p
 rw [← hK] at r ⊢
 unfold X2 at e
 split at e
 ·rename_i kvs
  obtain ⟨v, rfl, r'⟩ := r.one
  split at e
  ·rename_i hq
   split at e
   ·rename_i ps ep
    split at e
    ·rename_i h16
     cases e
     obtain ⟨q, a, ks, us, es, rfl, hd, _, hz, hl, ra, e1⟩ := r'.dctV
     have hu := hd.un (ds := es)
     rw [← e1] at hu
     rw [hu] at hq
     have hq : q = true := hq
     subst hq
     rw [hu] at ep
     have ek := R9 ep
     obtain ⟨l, xs, hH, kx, hs, rfl, rfl⟩ := hd
     have ek2 : (l.map fun p => PyData.tuple (p.1.map PyData.int)) = ps.map c7 := by
      rw [← ek]
      exact (a5j (by rw [hl, ra.length])).symm
     have ek3 : l.map (·.1) = ps.map A7 := S0 (by rw [List.map_map]; exact ek2)
     refine ⟨a, l, xs, ps, rfl, hH, kx, hs, ek3, h16, fun zs ys p' pr pm pw n => ?_⟩
     have := a8l c1k pm pw
     subst this
     exact C6 (hK ▸ rs) p n (by rw [Paired.length pr, b08, sizeLine_eq]; omega) (a3b pr)
    ·cases e
   ·cases e
  ·cases e
 ·cases e⟩
end
end BV
namespace BV
open PySem PySem.Spec PyProof.Rows L2

def ItX (ep : Nat) (d : Addr) (xs : List (List Int × Addr × Value)) : It :=
 ⟨fun i H => H d = some (.ext (tdf ep d xs)) ∧ i < xs.length, fun i H x H' => H' = H ∧ ∃ p, xs[i]? = some p ∧ x = .ref p.2.1, fun i H => H d = some (.ext (tdf ep d xs)) ∧ xs.length ≤ i⟩
theorem b6L {P : Program} {w : World} {K : PySem.W.Frag} {tg : Expr} {ep : Nat} {d : Addr} {xs : List (List Int × Addr × Value)} (it : Addr) : Turn P w K tg (ItX ep d xs) [it] it (fun i h => h.IsKeyIter it d i xs.length ep) where
 mem := by simp
 obj := fun i h st b hb => by
  have e : b = it := by simpa using hb
  subst e
  obtain ⟨oi, e, c, dd⟩ := st
  exact ⟨oi, e, fun v z => by rw [dd] at z; cases z⟩
 keep := fun i h h' st k => st.at fun oi e => k it (by simp) oi e
 item := by
  intro X hP hw hK hc i pins s σ H E I hf st hg
  subst hP hw hK
  obtain ⟨hd, hi⟩ := hg
  obtain ⟨f0, f1, f2, f3, f4, f5⟩ := hf it (by simp)
  obtain ⟨⟨o, es, hgd, hx, hdt, hes, _⟩, _⟩ := (show ObjOk X.prog X.w H s.heap d (.ext (tdf ep d xs)) from I.hok d _ hd)
  have hsz : es.size = xs.length := by rw [← Array.length_toList, hes, List.length_map]
  have hen : es[i]? = some (b77 xs[i]) := by
   rw [← Array.getElem?_toList, hes, List.getElem?_map, List.getElem?_eq_getElem hi]
   rfl
  refine next_key_item st hgd hdt hsz hen fun h' st' sb => ?_
  have I1 : Inv X pins σ H { s with heap := h' } := I.turned (t' := s.toks) (fun b ob hb e => (sb.2 b hb).trans e) f0 f1 f3 f4 f5
  obtain ⟨oi, e, c, dd⟩ := id st'
  exact ⟨_, rfl, go_of (s := { s with heap := h' }) e c dd (by decide) ⟨.ref xs[i].2.1, H, I1, rfl, ⟨rfl, xs[i], List.getElem?_eq_getElem hi, rfl⟩, st', fun b hb => (hf b hb).1⟩⟩
 done := by
  intro X hP hw hK hc i pins s σ H E I hf st hg
  subst hP hw hK
  obtain ⟨hd, hi⟩ := hg
  obtain ⟨f0, f1, f2, f3, f4, f5⟩ := hf it (by simp)
  obtain ⟨⟨o, es, hgd, hx, hdt, hes, _⟩, _⟩ := (show ObjOk X.prog X.w H s.heap d (.ext (tdf ep d xs)) from I.hok d _ hd)
  have hsz : es.size = xs.length := by rw [← Array.length_toList, hes, List.length_map]
  exact next_key_end (I.ok.hd hc) st hgd hdt hsz hi fun h' eb => ⟨rfl, I.turned (t' := s.toks) (fun b ob hb e => eb b ob hb e) f0 f1 f3 f4 f5⟩
 self := fun A i s Q E st h => by
  refine wpAny_pyIter_slot st.typeIs F.slot_dict_keyiterator_iter (wpAny_call_entry F.slot_dict_keyiterator_iter st.typeIs F.entry_dict_keyiterator_iter ?_ (F.args_dict_keyiterator_iter_1 _))
  show wpAny _ _ (ret (.ref it)) _ _ s
  exact wpAny_pure ⟨_, rfl, "dict_keyiterator", _, st.typeIs, F.slot_dict_keyiterator_next.lookup, h⟩
def iKX (td : TE) : TI := fun σ H R => td σ H fun x H1 => ∃ ep d xs, x = .ref d ∧ (d == sysModules) = false ∧ H1 d = some (.ext (tdf ep d xs)) ∧ R (ItX ep d xs) H1
theorem c1e {X : Cx} {tg e : Expr} {td : TE} (he : PE X e td) : PI X tg e (iKX td) := by
 refine ⟨fun pins s σ H R I h => ?_⟩
 refine thn (he.run pins s σ H _ I h) fun u s1 ⟨x, H1, I1, rx, ep, d, xs, ex, hs, hd, q⟩ => ?_
 subst ex
 obtain rfl : u = Value.ref d := rx
 obtain ⟨⟨o, es, hgd, hx, hdt, hes, _⟩, _⟩ := (show ObjOk X.prog X.w H1 s1.heap d (.ext (tdf ep d xs)) from I1.hok d _ hd)
 have hsz : es.size = xs.length := by rw [← Array.length_toList, hes, List.length_map]
 refine iter_keys hs hgd hx hdt (pi_one (tk := s1.toks) I1 _ (b6L _) ⟨_, Heap.get?_push_size _ rfl, rfl, ?_⟩ q)
 rw [hsz] <;> rfl
def a5Z (f : SE) : SI := fun ρ S => match f ρ S with
 | .ok t S1 => (match asD t with
  | some (.dict kvs) => if (unD kvs).1 = true then (match J3 (unD kvs).2 with
   | some ps => if ps.length ≤ 10000 then .ok (ps.map c7) S1 else .bad
   | none => .bad) else .bad
  | _ => .bad)
 | .exc e S1 => .exc e S1
 | .bad => .bad
theorem c1q {vol : Ow → Prop} {K : PySem.W.Frag} {o : Gh} {c : Cs} {H : Hp} {ep : Nat} {d : Addr} {xs : List (List Int × Addr × Value)} {ps : List (Int × Int)} (tr : Trk o H) (hd : H d = some (.ext (tdf ep d xs))) (hn : o d = none) (z : ps.length ≤ 10000) (pr : Paired (fun (x : List Int × Addr × Value) (p : Int × Int) => SqT K H x.2.1 [.int p.1, .int p.2]) xs ps) : b3z vol K (ItX ep d xs) o c H (ps.map c7) := by
 have hl : xs.length = ps.length := Paired.length pr
 refine ⟨by rw [List.length_map, sizeLine_eq]; omega, fun o1 c1 H1 s tr1 i => ?_⟩
 have h1 := s.keep d _ hd (fun w hw => by rw [hn] at hw; cases hw)
 refine ⟨fun h => ⟨h1, by rw [List.length_map] at h; omega⟩, fun x e => ?_⟩
 rw [List.getElem?_map] at e
 cases q : ps[i]? with
 | none => rw [q] at e; cases e
 | some p =>
  rw [q] at e
  simp only [Option.map_some, Option.some.injEq] at e
  subst e
  have hi : i < xs.length := by rw [hl]; exact (List.getElem?_eq_some_iff.mp q).1
  refine ⟨⟨h1, hi⟩, fun y H2 yy => ?_⟩
  obtain ⟨rfl, k, e1, rfl⟩ := yy
  obtain ⟨p', e2, sq⟩ := paired_get pr e1
  rw [q] at e2
  cases e2
  refine ⟨fun _ _ q => q, ?_⟩
  exact .tup k.2.1 _ _ (SqT.stay tr s sq) (show 2 ≤ sizeLine by decide) (.cons _ _ _ _ (.int _) (.cons _ _ _ _ (.int _) .nil))
theorem c1u {G : Cc} {tg e : Expr} {f : SE} {vol : Ow → Prop} (h : EV G e f) : IV vol G tg e (a5Z f) := by
 obtain ⟨t, p, q⟩ := h
 refine ⟨fun W => iKX (t W), fun X W k => c1e (p X W k), fun W σ H ρ S o c Q nt rs ps => ?_⟩
 refine q W σ H ρ S o c _ nt rs ?_
 unfold a5Z at ps
 cases e1 : f ρ S with
 | bad => rw [e1] at ps; exact ps.elim
 | exc e' S' => rw [e1] at ps; exact ps
 | ok t0 S' =>
  rw [e1] at ps
  intro v o' c' H' s rs' r'
  cases ea : asD t0 with
  | none => simp only [ea] at ps; exact ps.elim
  | some d =>
   simp only [ea] at ps
   cases d with
   | dict kvs =>
    simp only at ps
    split at ps
    ·rename_i hq
     split at ps
     ·rename_i pl ep
      split at ps
      ·rename_i h16
       have r2 := r'.toD rs'.cs.trk ea
       cases r2 with
       | dct q a ks us es kvs hd hn hz hl ra e2 =>
        have hu := hd.un (ds := es)
        rw [← e2] at hu
        rw [hu] at hq
        have hq : q = true := hq
        subst hq
        rw [hu] at ep
        have ek := R9 ep
        obtain ⟨l, xs, ⟨en, hH⟩, kx, hs, rfl, rfl⟩ := hd
        have ek2 : (l.map fun p => PyData.tuple (p.1.map PyData.int)) = pl.map c7 := by
         rw [← ek]
         exact (a5j (by rw [hl, ra.length])).symm
        have ek3 : l.map (·.1) = pl.map A7 := S0 (by rw [List.map_map]; exact ek2)
        exact ⟨en, a, xs, rfl, hs, hH, ps _ (unT o') c' H' (s.untmp nt) B7 rs'.untmp (c1q rs'.untmp.cs.trk hH hn h16 (kx.refs ek3))⟩
      ·exact ps.elim
     ·exact ps.elim
    ·exact ps.elim
   | _ => exact ps.elim
end BV
namespace BV
open PySem PySem.Spec PyProof.Rows L2

section
variable {prog : Program} {w : World} {A : Around} {E : Value → Shared → Prop} {s : Shared}
variable {z TI TO i1 i2 l1 l2 : Addr} {k1 k2 : Nat} {xs ys : Array Value} {x y a b f0 : Value} {f : Bool}
end
end BV
namespace BV
open PySem PySem.Spec PyProof.Rows L2

section
variable {prog : Program} {w : World} {A : Around} {E : Value → Shared → Prop} {s : Shared}
end
section
variable {K : PySem.W.Frag} {o : Gh} {c : Cs} {H : Hp} {a b : Addr} {vs ws : List V} {ds es : List D} {vol : Ow → Prop}
end
section
variable {G : Cc} {pos pos' p p' tpos : Pos} {e1 e2 : Expr} {elts : List Expr} {kk : Nat} {fs : SU} {vol : Ow → Prop}
end
end BV
namespace BV
open PySem L2

section
variable {K : PySem.W.Frag} {o o' : Gh} {H H' : Hp} {w w' : Ow}
mutual
theorem RepW.moveA (ht : ∀ a vs, SqT K H a vs → SqT K H' a vs) : ∀ {v : V} {d : BV.D} {as : List Addr}, RepW K o w H v d as → (∀ a ∈ as, ∀ u, H a = some u → o a = some w → H' a = some u ∧ o' a = some w') → RepW K o' w' H' v d as
 | _, _, _, .non, _ => .non
 | _, _, _, .bl b, _ => .bl b
 | _, _, _, .int i, _ => .int i
 | _, _, _, .str x h1 h2, _ => .str x h1 h2
 | _, _, _, .lst a vs ds as h1 h2 h3 h4, hl => .lst a vs ds as (hl a (List.mem_cons_self ..) _ h2 h1).2 (hl a (List.mem_cons_self ..) _ h2 h1).1 h3 (RepWs.moveA ht h4 fun b hb => hl b (List.mem_cons_of_mem _ hb))
 | _, _, _, .tup a vs ds as h1 h2 h3, hl => .tup a vs ds as (ht a _ h1) h2 (RepWs.moveA ht h3 hl)
theorem RepWs.moveA (ht : ∀ a vs, SqT K H a vs → SqT K H' a vs) : ∀ {vs : List V} {ds : List BV.D} {as : List Addr}, RepWs K o w H vs ds as → (∀ a ∈ as, ∀ u, H a = some u → o a = some w → H' a = some u ∧ o' a = some w') → RepWs K o' w' H' vs ds as
 | _, _, _, .nil, _ => .nil
 | _, _, _, .cons v d vs ds as bs h1 h2, hl => .cons v d vs ds as bs (RepW.moveA ht h1 fun b hb => hl b (List.mem_append_left _ hb)) (RepWs.moveA ht h2 fun b hb => hl b (List.mem_append_right _ hb))
end
mutual
theorem RepW.of : ∀ {v : V} {d : BV.D} {as : List Addr}, RepW K o w H v d as → ∀ a ∈ as, o a = some w ∧ ∃ vs, H a = some (.lst vs)
 | _, _, _, .non, _, h => nomatch h
 | _, _, _, .bl b, _, h => nomatch h
 | _, _, _, .int i, _, h => nomatch h
 | _, _, _, .str x h1 h2, _, h => nomatch h
 | _, _, _, .lst a vs ds as h1 h2 h3 h4, b, h => by
  rcases List.mem_cons.mp h with z | z
  ·rw [z]; exact ⟨h1, vs, h2⟩
  ·exact RepWs.of h4 b z
 | _, _, _, .tup a vs ds as h1 h2 h3, b, h => RepWs.of h3 b h
theorem RepWs.of : ∀ {vs : List V} {ds : List BV.D} {as : List Addr}, RepWs K o w H vs ds as → ∀ a ∈ as, o a = some w ∧ ∃ vs, H a = some (.lst vs)
 | _, _, _, .nil, _, h => nomatch h
 | _, _, _, .cons v d vs ds as bs h1 h2, b, h => by
  rcases List.mem_append.mp h with z | z
  ·exact RepW.of h1 b z
  ·exact RepWs.of h2 b z
end
theorem RepWs.length : ∀ {vs : List V} {ds : List BV.D} {as : List Addr}, RepWs K o w H vs ds as → vs.length = ds.length
 | _, _, _, .nil => rfl
 | _, _, _, .cons v d vs ds as bs _ h2 => by rw [List.length_cons, List.length_cons, RepWs.length h2]
theorem RepWs.append : ∀ {vs us : List V} {ds es : List BV.D} {as bs : List Addr}, RepWs K o w H vs ds as → RepWs K o w H us es bs → RepWs K o w H (vs ++ us) (ds ++ es) (as ++ bs)
 | _, _, _, _, _, _, .nil, q => q
 | _, _, _, _, _, _, .cons v d vs ds as bs h1 h2, q => by
  rw [List.append_assoc]
  exact .cons v d _ _ as _ h1 (RepWs.append h2 q)
theorem RepWs.one {v : V} {d : BV.D} {as : List Addr} (h : RepW K o w H v d as) : RepWs K o w H [v] [d] as := by
 have := RepWs.cons v d [] [] as [] h .nil
 rwa [List.append_nil] at this
theorem RepWs.at : ∀ {vs : List V} {ds : List BV.D} {as : List Addr} {k : Nat} {d : BV.D}, RepWs K o w H vs ds as → ds[k]? = some d → ∃ v pre bs post, vs[k]? = some v ∧ as = pre ++ bs ++ post ∧ RepW K o w H v d bs ∧
  ∀ {H' : Hp} {o' : Gh} {w' : Ow} {v' : V} {d' : BV.D} {bs' : List Addr}, (∀ a us, SqT K H a us → SqT K H' a us) → (∀ a, a ∈ pre ∨ a ∈ post → ∀ u, H a = some u → o a = some w → H' a = some u ∧ o' a = some w') → RepW K o' w' H' v' d' bs' → RepWs K o' w' H' (vs.set k v') (ds.set k d') (pre ++ bs' ++ post)
 | _, _, _, k, d, .nil, e => by simp at e
 | _, _, _, 0, d, .cons v d0 vs ds as bs h1 h2, e => by
  simp at e
  subst e
  refine ⟨v, [], as, bs, rfl, rfl, h1, fun {H' o' w' v' d' bs'} ht hl r => ?_⟩
  exact .cons v' d' vs ds bs' bs r (RepWs.moveA ht h2 fun a ha => hl a (.inr ha))
 | _, _, _, k + 1, d, .cons v d0 vs ds as bs h1 h2, e => by
  obtain ⟨v1, pre, cs, post, e1, e2, r1, up⟩ := RepWs.at (k := k) h2 (by simpa using e)
  refine ⟨v1, as ++ pre, cs, post, by simpa using e1, by rw [e2]; simp only [List.append_assoc], r1, fun {H' o' w' v' d' bs'} ht hl r => ?_⟩
  have z := up ht (fun a ha => hl a (ha.imp (List.mem_append_right _) id)) r
  have := RepWs.cons v d0 (vs.set k v') (ds.set k d') as _ (RepW.moveA ht h1 fun a ha => hl a (.inl (List.mem_append_left _ ha))) z
  rw [List.set_cons_succ, List.set_cons_succ]
  simpa only [List.append_assoc] using this
end
section
variable {G : Cc} {pos : Pos} {e : Expr} {es : List Expr} {f : SE} {fs : SU}
end
end BV
namespace BV
open PySem L2

section
variable {K : PySem.W.Frag} {o o1 : Gh} {c c1 : Cs} {ρ : En} {S : Sto} {σ : L2.St} {H H1 : Hp} {w : Ow}
end
end BV
namespace BV
open PySem L2

section
variable {G : Cc} {W : WX} {o o1 : Gh} {c c1 : Cs} {ρ : En} {σ : L2.St} {H H1 : Hp} {S S1 : Sto} {pos : Pos} {e : Expr} {f : SE}
end
end BV
namespace BV
open PySem L2
section
variable {G : Cc}
end
end BV
namespace BV
open PySem L2

section
variable {G : Cc} {pos : Pos} {e : Expr} {es : List Expr} {f : SE} {fs : SU}
end
section
variable {K : PySem.W.Frag} {o o1 : Gh} {c c1 : Cs} {ρ : En} {S : Sto} {σ : L2.St} {H H1 : Hp} {w : Ow}
end
section
variable {G : Cc} {W : WX} {o o1 : Gh} {c c1 : Cs} {ρ : En} {σ : L2.St} {H H1 : Hp} {S S1 : Sto} {pos : Pos}
end
section
variable {f : SE} {fs : SU} {ρ : En} {S : Sto} {i : Nat} {fa fb : SE}
end
end BV
namespace BV
open PySem L2

theorem b45 : (("lines" : Str) = "job") = False := by simp; decide +kernel
theorem b6o : (("ahead" : Str) = "job") = False := by simp; decide +kernel
theorem b6P : (("undone" : Str) = "job") = False := by simp; decide +kernel
theorem b9L : (("job" : Str) = "lines") = False := by simp; decide +kernel
theorem b6R : (("ahead" : Str) = "lines") = False := by simp; decide +kernel
theorem b6Z : (("undone" : Str) = "lines") = False := by simp; decide +kernel
theorem b9g : (("job" : Str) = "ahead") = False := by simp; decide +kernel
theorem b8v : (("lines" : Str) = "ahead") = False := by simp; decide +kernel
theorem b1P : (("undone" : Str) = "ahead") = False := by simp; decide +kernel
theorem b9i : (("job" : Str) = "undone") = False := by simp; decide +kernel
theorem b8I : (("lines" : Str) = "undone") = False := by simp; decide +kernel
theorem b6u : (("ahead" : Str) = "undone") = False := by simp; decide +kernel
def DskV.dat (v : DskV) (f : Str) : Option D := if f = "job" then v.job else if f = "lines" then v.lines else none
def DskV.lst (v : DskV) (f : Str) : Option (List D) := if f = "ahead" then v.ahead else if f = "undone" then v.undone else none
def DskV.putD (v : DskV) (f : Str) (d : D) : Option DskV := if f = "job" then some { v with job := some d } else if f = "lines" then some { v with lines := some d } else none
def DskV.putL (v : DskV) (f : Str) (xs : List D) : Option DskV := if f = "ahead" then some { v with ahead := some xs } else if f = "undone" then some { v with undone := some xs } else none
@[simp] theorem b9P (v : DskV) : v.dat "job" = v.job := rfl
@[simp] theorem b68 (v : DskV) : v.dat "lines" = v.lines := by simp [DskV.dat, b45]
@[simp] theorem b6p (v : DskV) : v.lst "ahead" = v.ahead := rfl
@[simp] theorem b5C (v : DskV) : v.lst "undone" = v.undone := by simp [DskV.lst, b1P]
@[simp] theorem b7V (v : DskV) (d : D) : v.putD "job" d = some { v with job := some d } := rfl
@[simp] theorem b5M (v : DskV) (d : D) : v.putD "lines" d = some { v with lines := some d } := by simp [DskV.putD, b45]
@[simp] theorem b5L (v : DskV) (xs : List D) : v.putL "ahead" xs = some { v with ahead := some xs } := rfl
@[simp] theorem b44 (v : DskV) (xs : List D) : v.putL "undone" xs = some { v with undone := some xs } := by simp [DskV.putL, b1P]
def c0Y : Ce → Ce
 | .rcd _ _ => .dead
 | k => k
def b1k (S : Sto) : Sto := S.map c0Y
def a5M : T → Bool
 | .rof _ _ => true
 | _ => false
theorem a6S (S : Sto) : (b1k S).length = S.length := by simp [b1k]
section
variable {K : PySem.W.Frag} {o o1 o' : Gh} {c c' : Cs} {H H' : Hp} {S S' : Sto} {v : V} {t : T} {w : Ow} {ρ : En} {σ : L2.St}
end
section
variable {G : Cc} {e : Expr} {es : List Expr} {f : SE} {fs : SA}
end
end BV
namespace BV
open PySem L2

section
variable {K : PySem.W.Frag} {o o1 o' : Gh} {c c' : Cs} {H H' : Hp} {S S' : Sto} {t : T} {w : Ow} {ρ : En} {σ : L2.St} {fv : Str → Option V} {v v' : DskV} {f : Str}
theorem FlR.mv {H' : Hp} {u : Option V} {d : Option (List BV.D)} (tr : Trk o H) (k : Kept o H o' H') (hc : ∀ b vs, o b = some w → H b = some (.lst vs) → o' b = some w ∧ H' b = some (.lst vs)) (r : FlR K o H w u d) : FlR K o' H' w u d := by
 cases d with
 | none => exact r
 | some d =>
  obtain ⟨b, vs, e, q1, q2, q3, q4⟩ := r
  exact ⟨b, vs, e, (hc b vs q1 q2).1, (hc b vs q1 q2).2, q3, q4.kept tr k⟩
theorem RecR.putD {y : V} {d : BV.D} (tr : Trk o H) (k : Kept o H o' H') (hc : ∀ b vs, o b = some w → H b = some (.lst vs) → o' b = some w ∧ H' b = some (.lst vs)) (ry : Rep K o' H' y d) (e : v.putD f d = some v') (r : RecR K o H w fv v) :
  RecR K o' H' w (fun g => if g = f then some y else fv g) v' := by
 unfold DskV.putD at e
 split at e
 ·rename_i h; subst h; cases e
  refine ⟨?_, ?_, ?_, ?_, ?_⟩
  ·exact ⟨y, if_pos rfl, ry⟩
  ·simp only [b45, if_false]; exact r.lines.moved tr k
  ·simp only [b6o, if_false]; exact r.ahead.mv tr k hc
  ·simp only [b6P, if_false]; exact r.undone.mv tr k hc
  ·simp only [b6o, b6P, if_false]; exact r.two
 ·split at e
  ·rename_i h; subst h; cases e
   refine ⟨?_, ?_, ?_, ?_, ?_⟩
   ·simp only [b9L, if_false]; exact r.job.moved tr k
   ·exact ⟨y, if_pos rfl, ry⟩
   ·simp only [b6R, if_false]; exact r.ahead.mv tr k hc
   ·simp only [b6Z, if_false]; exact r.undone.mv tr k hc
   ·simp only [b6R, b6Z, if_false]; exact r.two
  ·cases e
theorem FlR.addr {u : Option V} {d : Option (List BV.D)} (r : FlR K o H w u d) {b : Addr} (e : u = some (.ref b)) : o b = some w := by
 cases d with
 | none => rw [show u = none from r] at e; cases e
 | some d =>
  obtain ⟨b', vs, e1, q1, _⟩ := r
  rw [e] at e1; cases e1
  exact q1
theorem RecR.putL {p : Addr} {vs : List V} {xs : List BV.D} (tr : Trk o H) (k : Kept o H o' H') (hc : ∀ b vs, o b = some w → H b = some (.lst vs) → o' b = some w ∧ H' b = some (.lst vs)) (np : o p ≠ some w) (h1 : o' p = some w) (h2 : H' p = some (.lst vs)) (h3 : vs.length ≤ sizeLine) (h4 : RepAll K o' H' vs xs)
  (e : v.putL f xs = some v') (r : RecR K o H w fv v) : RecR K o' H' w (fun g => if g = f then some (.ref p) else fv g) v' := by
 unfold DskV.putL at e
 split at e
 ·rename_i h; subst h; cases e
  refine ⟨?_, ?_, ?_, ?_, ?_⟩
  ·simp only [b9g, if_false]; exact r.job.moved tr k
  ·simp only [b8v, if_false]; exact r.lines.moved tr k
  ·exact ⟨p, vs, if_pos rfl, h1, h2, h3, h4⟩
  ·simp only [b1P, if_false]; exact r.undone.mv tr k hc
  ·simp only [b1P, if_true, if_false]
   intro b e1 e2
   cases e1
   exact np (r.undone.addr e2)
 ·split at e
  ·rename_i h; subst h; cases e
   refine ⟨?_, ?_, ?_, ?_, ?_⟩
   ·simp only [b9i, if_false]; exact r.job.moved tr k
   ·simp only [b8I, if_false]; exact r.lines.moved tr k
   ·simp only [b6u, if_false]; exact r.ahead.mv tr k hc
   ·exact ⟨p, vs, if_pos rfl, h1, h2, h3, h4⟩
   ·simp only [b6u, if_true, if_false]
    intro b e1 e2
    cases e2
    exact np (r.ahead.addr e1)
  ·cases e
end
end BV
namespace BV
open PySem L2

section
variable {G : Cc} {W : WX} {o o1 o2 : Gh} {c c1 c2 : Cs} {ρ : En} {σ : L2.St} {H H1 H2 : Hp} {S S1 : Sto} {pos p : Pos} {a b e : Expr} {es : List Expr} {f1 f2 fe : SE} {fs : SA} {t : T} {v : V}
end

def atR (ρ : En) (S : Sto) (i : Nat) (b : Bool) : Option (Nat × DskV) := match ρ[i]? with
 | some (some (.cel n)) => (match S[n]? with
  | some (.rcd b' v) => if b' = b then some (n, v) else none
  | _ => none)
 | _ => none
section
variable {X : Cx} {G : Cc} {W : WX} {o o1 o2 : Gh} {c c1 c2 : Cs} {ρ : En} {σ : L2.St} {H H1 H2 : Hp} {S S1 : Sto} {pos p : Pos} {a b e : Expr} {es : List Expr} {f1 f2 fe : SE} {fs : SA} {t : T} {v : V}
end
end BV
namespace BV
open PySem L2
section
variable {K : PySem.W.Frag} {G : Cc} {W : WX} {o o1 o2 : Gh} {c c1 c2 : Cs} {ρ : En} {σ : L2.St} {H H1 H2 : Hp} {S S1 : Sto} {pos p : Pos} {a b e : Expr} {es : List Expr} {f1 f2 fe : SE} {fs : SA} {t : T} {v v' : DskV}
end
end BV
namespace BV
open PySem L2
section
variable {K : PySem.W.Frag} {G : Cc} {W : WX} {o o1 o2 : Gh} {c c1 c2 : Cs} {ρ : En} {σ : L2.St} {H H1 H2 : Hp} {S S1 : Sto} {pos p : Pos} {a b e : Expr} {es : List Expr} {f1 f2 fe : SE} {fs : SA} {t : T} {v v' : DskV}
end

section
variable {X : Cx} {G : Cc} {CX : CXT} {k : Nat} {f C : Addr} {fd : FuncData} {ps : List Str} {sp : Sp} {E : L2.St → XK} {m : Str} {pos apos : Pos} {e o : Expr} {es : List Expr} {ta : TE} {t : TA} {fs : SA}
end
end BV
namespace BV
open PySem L2
section
variable {K : PySem.W.Frag} {G : Cc} {W : WX} {o o' o1 o2 o3 : Gh} {c c1 c2 : Cs} {ρ : En} {σ : L2.St} {H H1 H2 H4 : Hp} {S S1 : Sto} {pos p : Pos} {a b e : Expr} {es : List Expr} {f1 f2 fe : SE} {fs : SA} {t : T} {v v' : DskV} {Q : VK}
theorem RS.push {x : Addr} {k : Ce} (rs : RS K o c ρ S σ H) (h : CellR K o H S.length x k) : RS K o (c ++ [x]) ρ (S ++ [k]) σ H :=
 rs.step (c1 := c ++ [x]) ⟨fun _ _ e _ => e, fun _ _ e _ => e, fun _ e n => absurd e n, ⟨[x], rfl⟩⟩ ⟨by rw [List.length_append, List.length_append, rs.cs.clen]; rfl, fun n b q e1 e2 => by
  by_cases hl : n < S.length
  ·rw [List.getElem?_append_left (by rw [rs.cs.clen]; exact hl)] at e1
   rw [List.getElem?_append_left hl] at e2
   exact rs.cs.cell n b q e1 e2
  ·have hn : n = S.length := by
    have := (List.getElem?_eq_some_iff.mp e2).1
    rw [List.length_append] at this
    simp at this
    omega
   subst hn
   rw [List.getElem?_append_right (by rw [rs.cs.clen]; exact Nat.le_refl _), rs.cs.clen, Nat.sub_self] at e1
   rw [List.getElem?_append_right (Nat.le_refl _), Nat.sub_self] at e2
   simp only [List.getElem?_cons_zero, Option.some.injEq] at e1 e2
   subst e1 e2
   exact h, rs.cs.trk⟩
theorem Step.push {x : Addr} : Step c9 o c H o (c ++ [x]) H := ⟨fun _ _ e _ => e, fun _ _ e _ => e, fun _ e n => absurd e n, ⟨[x], rfl⟩⟩
theorem RS.same (rs : RS K o c ρ S σ H) (hn : ∀ a, o a = none ↔ o' a = none) (hs : ∀ a i, o a = some (.slot i) → o' a = some (.slot i)) (hc : ∀ a n, o a = some (.cell n) → o' a = some (.cell n)) (he : ∀ a, o a = some .seen → o' a = some .seen) : RS K o' c ρ S σ H :=
 ⟨rs.len, fun i t e => by
  obtain ⟨v, e1, r⟩ := rs.slot i t e
  exact ⟨v, e1, r.same rs.cs.trk (fun a => (hn a).mp) (fun a e => hs a i e) he⟩, rs.cs.same hn hc⟩
end
end BV
namespace BV
open PySem PySem.Spec PyProof.Rows L2
open He (ba eqO eqO_ok ga)

end BV
namespace BV
open PySem PySem.Spec PyProof.Rows L2

section
variable {P : Program} {w : World} {A : Around} {E : Value → Shared → Prop} {s : Shared}
end
section
variable {X : Cx} {a : Expr} {ta : TE} {p p2 q pos : Pos}
end
section
variable {G : Cc} {a : Expr} {f : SE} {p p2 q pos : Pos}
end
end BV
namespace BV
open PySem PySem.Spec PyProof.Rows L2

end BV
namespace BV
open PySem PySem.Spec PyProof.Rows L2
open He (ba eqO eqO_ok ga)

end BV
namespace BV
open PySem PySem.Spec PyProof.Rows L2
open He (ba eqO eqO_ok ga)

end BV
namespace BV
open PySem PySem.Spec PyProof.Rows L2
section
variable {P : Program} {w : World} {K : PySem.W.Frag} {mg : Str → Option Value} {base : Heap} {cn : Bool} {k : Nat} {m qual : Str} {st : Stmt} {fd : FuncData} {N ps : List Str} {g : SS} {sc : Scope} {n : Nat}
end
section
variable {ρ : En} {S : Sto} {f fk fe : SE} {i : Nat} {b : Bool} {fn : Fn} {fs : SA} {x : Str}
@[simp] theorem b6Q {d : D} : a5M (.val d) = false := rfl
@[simp] theorem b6M {d : List D} : a5M (.own d) = false := rfl
@[simp] theorem b5J {d : List (List D)} : a5M (.own2 d) = false := rfl
@[simp] theorem b5S {q : Bool} {d : List (D × D)} : a5M (.ownd q d) = false := rfl
@[simp] theorem b67 {n : Nat} : a5M (.cel n) = false := rfl
@[simp] theorem b5s {d : D} : a5M (.tree d) = false := rfl
theorem b7t {n : Nat} {b : Bool} {v : DskV} (h1 : ρ[i]? = some (some (.cel n))) (h2 : S[n]? = some (.rcd b v)) : atR ρ S i b = some (n, v) := by
 unfold atR
 rw [h1]
 simp [h2]
theorem b33 {n : Nat} {xs : List D} (h : S[n]? = some (.lst xs)) : (b1k S)[n]? = some (.lst xs) := by simp [b1k, h, c0Y]
end
end BV
namespace BV
open PySem L2
section
variable {G : Cc} {es : List Expr} {fs : SA} {pos : Pos} {e b : Expr} {f2 : SE}
end
section
variable {G : Cc} {e : Expr} {fs : SA}
end
section
variable {G : Cc} {e : Expr} {f : SE} {tg : Expr}
end
end BV
namespace BV
open PySem PySem.Spec PyProof.Rows L2 LamX

section
variable {K : PySem.W.Frag} {o : Gh} {c : Cs} {ρ : En} {S : Sto} {σ : L2.St} {H H2 : Hp}
end
section
variable {X : Cx} {P c : Addr} {params : Arguments} {body : Expr} {scope : Scope} {pos : Pos}
end
section
variable {G : Cc} {pos p lpos kpos : Pos} {e : Expr} {f : SE}
end
end BV
namespace BV
open PySem PySem.Spec PyProof.Rows L2 LamX
open He (ba)

def tfL : List He.Defn := [("named", none)]
def obsT (n : Nat) (fa : List He.Fa) (fn : List He.DefD) (ts : List He.Tab) (ex : List (PySem.W.Frag → Bool)) (g : Addr → Option Obj) : AlB := (He.obsT fa fn ts (frB n g), (ex.all fun e => e (frB n g)) && He.tabsB g tfL (frB n g))
structure SaysT (fa : List He.Fa) (fn : List He.DefD) (ts : List He.Tab) (ex : List (PySem.W.Frag → Bool)) (w : World) (h : Heap) (K : PySem.W.Frag) : Prop where
 b : SaysB fa fn ts ex w K
 hd : PySem.W.codeHdIn K (He.cT K ("named", none)).1 (He.cT K ("named", none)).2 = true
 out : K.lookup (He.cT K ("named", none)).2 = none
 empty : h.get? (He.cT K ("named", none)).2 = some { cls := .none, data := .fields #[] }
end BV
namespace BV
open PySem PySem.Spec PyProof.Rows L2 LamX
open He (ba)

section
open PySem.W PySem.Calls HandSHeadRun
end
end BV
namespace BV
open PySem PySem.Spec PyProof.Rows L2
def scX (xs : List (Str × NameKind)) (gs : List Str) : Scope := ⟨.function, xs ++ gs.map fun x => (x, .globalImplicit), false, false, []⟩
def scL (ls gs : List Str) : Scope := scX (ls.map fun x => (x, .local)) gs
def fsB (N P : List Str) (sc : Scope) : Bool := decide (sc.kind = .function) && (decide (sc.isCoroutine = false) && (decide (sc.isGenerator = false) && (decide N.Nodup && (decide (N.take P.length = P) && (P.all (fun x => decide (sc.names.lookup x = some .local) || decide (sc.names.lookup x = some .cell)) && sc.names.all fun y => !decide (y.2 = .free))))))
theorem a0U {N P : List Str} {sc : Scope} (h : fsB N P sc = true) : FnScope N P sc := by
 unfold fsB at h
 simp only [Bool.and_eq_true, decide_eq_true_eq] at h
 obtain ⟨h1, h2, h3, h4, h5, h6, h7⟩ := h
 rw [List.all_eq_true] at h6 h7
 refine ⟨h1, h2, h3, h4, h5, fun x hx => ?_, fun y hy z => ?_⟩
 ·have := h6 x hx
  rw [Bool.or_eq_true, decide_eq_true_eq, decide_eq_true_eq] at this
  exact this
 ·have := h7 y hy
  rw [z] at this
  simp at this
def ddO (n : Str) (s : Stmt) : He.DefD := ⟨(n, none), n, n, defArgs s, defBody s, defScope s, [], []⟩
section
variable {fa : List He.Fa} {fn : List He.DefD} {ts : List He.Tab} {ex : List (PySem.W.Frag → Bool)} {w : World} {K : PySem.W.Frag}
theorem SaysB.dO (c : SaysB fa fn ts ex w K) (i : Nat) {n : Str} {s : Stmt} (h : fn[i]? = some (ddO n s)) : ∃ fd, FunD K n n (defArgs s) (defBody s) (defScope s) [] [] (He.ga K n) fd := c.def_ i h
end
section
universe u1 u2 u3 u4 u5 u6 u7
variable {A1 : Sort u1} {A2 : Sort u2} {A3 : Sort u3} {A4 : Sort u4} {A5 : Sort u5} {A6 : Sort u6} {V : Type u7} {Q : A1 → A2 → A3 → A4 → A5 → A6 → List V → Prop}
theorem al1 (h : ∀ a b c d e f x, Q a b c d e f [x]) : ∀ a b c d e f us, us.length = 1 → Q a b c d e f us := fun a b c d e f us hl => match us, hl with | [x], _ => h a b c d e f x
theorem al2 (h : ∀ a b c d e f x y, Q a b c d e f [x, y]) : ∀ a b c d e f us, us.length = 2 → Q a b c d e f us := fun a b c d e f us hl => match us, hl with | [x, y], _ => h a b c d e f x y
theorem al3 (h : ∀ a b c d e f x y z, Q a b c d e f [x, y, z]) : ∀ a b c d e f us, us.length = 3 → Q a b c d e f us := fun a b c d e f us hl => match us, hl with | [x, y, z], _ => h a b c d e f x y z
theorem al4 (h : ∀ a b c d e f x y z t, Q a b c d e f [x, y, z, t]) : ∀ a b c d e f us, us.length = 4 → Q a b c d e f us := fun a b c d e f us hl => match us, hl with | [x, y, z, t], _ => h a b c d e f x y z t
end
end BV
namespace BV
open PySem PySem.Spec PyProof.Rows L2
section
universe u1 u2 u3 u4 u5 u6 u7
variable {A1 : Sort u1} {A2 : Sort u2} {A3 : Sort u3} {A4 : Sort u4} {A5 : Sort u5} {A6 : Sort u6} {V : Type u7} {Q : A1 → A2 → A3 → A4 → A5 → A6 → List V → Prop}
theorem al6 (h : ∀ a b c d e f x y z t u v, Q a b c d e f [x, y, z, t, u, v]) : ∀ a b c d e f us, us.length = 6 → Q a b c d e f us := fun a b c d e f us hl => match us, hl with | [x, y, z, t, u, v], _ => h a b c d e f x y z t u v
end
end BV
namespace BV
open PySem L2
def b6N : SS := fun _ _ => .bad
theorem b05 {G : Cc} {st : List Stmt} : SVs G st b6N := ⟨fun _ _ _ _ => False, fun X W k => ⟨fun _ _ _ _ _ _ h => h.elim⟩, fun W σ H ρ S o c D nt rs ps => ps⟩
def a9X (n : Nat) (g : Fn → SS) : Nat → Fn
 | 0 => fnL n b6N
 | r + 1 => fnL n (g (a9X n g r))
theorem a61 {n : Nat} {g : Fn → SS} {r : Nat} : a9X n g (r + 1) = fnL n (g (a9X n g r)) := rfl
end BV
namespace BV
open PySem L2

section
variable {K : PySem.W.Frag} {o o1 : Gh} {c c1 : Cs} {ρ : En} {S : Sto} {σ : L2.St} {H H1 : Hp} {a : Addr} {u : HO} {w : Ow} {v : V} {t : T}
end
end BV
namespace BV
open PySem L2

section
variable {M : Model} {A : Around} {E : Value → Shared → Prop} {s : Shared} {env : PySem.Env}
end

section
variable {M : Model} {A : Around} {E : Value → Shared → Prop} {s : Shared} {Z : Obj → Prop} {B : Heap} {env env' : PySem.Env} {outer : List PySem.Env} {L L' a : Addr}
end

section
variable {X : Cx}
end

section
variable {G : Cc} {W : WX} {pos : Pos} {e tg : Expr}
end
end BV
namespace BV
open PySem PySem.Spec PyProof.Rows L2

section
variable {G : Cc} {pos : Pos} {f : SE} {fs : SA}
end
end BV
namespace BV
open PySem PySem.Spec PyProof.Rows L2

section
variable {prog : Program} {w : World} {A : Around}
end
section
variable {K : PySem.W.Frag} {o : Gh} {c : Cs} {H : Hp} {a b : Addr} {vs ws : List V} {ds es : List D} {vol : Ow → Prop}
end
section
variable {G : Cc} {pos p tpos : Pos} {e e1 e2 : Expr} {es elts : List Expr} {kk : Nat} {f f1 f2 : SE} {fs : SU} {vol : Ow → Prop}
end
end BV
namespace BV
open PySem L2

section
variable {G : Cc} {W : WX} {o o1 : Gh} {c c1 : Cs} {ρ : En} {S : Sto} {σ : L2.St} {H H1 : Hp} {pos xp lp ap cp : Pos} {i j : Nat} {x l : Str}
theorem RS.any {K : PySem.W.Frag} {v : V} (rs : RS K o c ρ S σ H) (h : ∀ t, ρ[j]? ≠ some (some t)) : RS K o c ρ S (σ.set j (some v)) H := ⟨by rw [List.length_set]; exact rs.len, fun m t e => by
 have hj : j ≠ m := fun z => h t (z ▸ e)
 rw [List.getElem?_set_ne hj]
 exact rs.slot m t e, rs.cs⟩
end
section
variable {G : Cc} {W : WX} {o : Gh} {c : Cs} {ρ : En} {S : Sto} {σ : L2.St} {H : Hp} {i : Nat} {a : Addr}
end
section
variable {G : Cc} {e : Expr} {g : SB}
end
end BV
namespace BV
open PySem L2
section
variable {G : Cc} {W : WX} {o o1 : Gh} {c c1 : Cs} {ρ : En} {S : Sto} {σ : L2.St} {H H1 : Hp} {pos : Pos}
end
section
variable {i jp jl k r : Nat} {fe : SE} {ρ : En} {S : Sto}
end
section
variable {G : Cc} {e : Expr} {f : SE}
end
end BV
namespace BV
open PySem L2
section
variable {G : Cc} {W : WX} {o o1 : Gh} {c c1 : Cs} {ρ : En} {S : Sto} {σ : L2.St} {H H1 : Hp} {pos : Pos}
end
section
variable {i jl k r : Nat} {fe : SE} {ρ : En} {S : Sto}
end
section
variable {K : PySem.W.Frag} {o : Gh} {w : Ow} {H : Hp}
end
section
variable {G : Cc} {pos : Pos} {e : Expr} {f : SE}
end
section
variable {G : Cc} {e : Expr} {f : SE} {pos : Pos}
end
end BV
namespace BV
open PySem PySem.Spec PyProof.Rows L2

section
variable {G : Cc}
end
end BV
namespace BV
open PySem PySem.Spec PyProof.Rows L2
open He (ba eqO eqO_ok ga ma)

section
variable {P : Program} {w : World} {K : PySem.W.Frag} {mg : Str → Option Value} {base : Heap} {CX : CXT}
end

section
variable {G : Cc} {pos : Pos}
end
end BV
namespace BV
open PySem PySem.Spec PyProof.Rows L2
open He (ba eqO eqO_ok ga)

end BV
namespace BV
open PySem PySem.Spec PyProof.Rows L2
section
variable {X : Cx}
end
def b8w : List D → Option T
 | [.str x] => if x.length ≤ 640 then (PySem.intText? x).map fun n => .val (.int n) else none
 | _ => none
end BV
namespace BV
open PySem PySem.Spec PyProof.Rows L2
open He (ba eqO eqO_ok ga)

inductive Tst (X : Cx) : Expr → List Value → Prop
 | one {x : Str} {c : Value} {p : Pos} (h : Names X x c) : Tst X (.Name x p) [c]
 | two {x y : Str} {c d : Value} {p q r : Pos} {k : Nat} (h : Names X x c) (h' : Names X y d) : Tst X (.Tuple [.Name x p, .Name y q] k r) [c, d]
structure Air (X : Cx) (Z : Obj → Prop) (pins : List (Addr × Obj)) (σ : L2.St) (H : Hp) (a : Addr) (B : Heap) (sI sE : Shared) (h : Heap) : Prop where
 inv : Inv X pins σ H sI
 nb : ∀ b o, sI.heap.get? b = some o → b ∉ frs X.stack → B.get? b = some o
 up : sI.heap.UpToSlots h
 fl : HandSPX.FlyingZ B (X.env :: X.outer) a Z h
 na : H a = none
 os : sE.os = sI.os
 ag : AllBare sE.gens
section
variable {X : Cx} {Z : Obj → Prop} {pins : List (Addr × Obj)} {σ : L2.St} {H : Hp} {a : Addr} {B h h1 : Heap} {sI sE : Shared} {cls : Value} {d : Option Addr}
theorem Air.more (A : Air X Z pins σ H a B sI sE h) (k : ∀ b o, h.get? b = some o → h1.get? b = some o) : Air X Z pins σ H a B sI sE h1 := by
 obtain ⟨f1, f2, f3, oe, vs, T, oT, ts, g1, g2, g3, g4, g5, g6, g7, g8⟩ := A.fl
 exact ⟨A.inv, A.nb, A.up.trans (Heap.UpToSlots.of_keeps k), ⟨fun b o e => k _ _ (f1 b o e), f2, f3.of_keeps fun b o e _ => ⟨o, k _ _ e, rfl⟩, oe, vs, T, oT, ts, k _ _ g1, g2, g3, g4, g5, g6, k _ _ g7, g8⟩, A.na, A.os, A.ag⟩
theorem Air.turn (A : Air X Z pins σ H a B sI sE h) (fl : HandSPX.FlyingZ B (X.env :: X.outer) a Z h1) (up : h.UpToSlots h1) : Air X Z pins σ H a B sI sE h1 := ⟨A.inv, A.nb, A.up.trans up, fl, A.na, A.os, A.ag⟩
theorem Air.inside (A : Air X Z pins σ H a B sI sE h) (hs : X.stack = X.env :: X.outer) (hf : X.env.frame = some X.env.locals) : ∃ oe vs, Z oe ∧ h.get? a = some oe ∧ oe.data = .fields vs ∧ Inv (X.suite a ((a, oe) :: (X.pn ++ pins))) [] σ H { sE with heap := h } := by
 have J : Inv X pins σ H { sE with heap := h } := A.inv.landed (s' := { sE with heap := h }) A.nb A.fl.1 A.up A.os A.ag
 obtain ⟨oe, vs, e1, e2, e3⟩ := A.fl.there
 have out : a ∉ frs (X.env :: X.outer) := fun hm => by
  obtain ⟨_, o, e4, e5⟩ := A.fl.2.2.1.mem hm
  cases e1.symm.trans e4
  exact e5 _ e3
 refine ⟨oe, vs, e2, e1, e3, J.suite e1 e3 A.na (fun z => ?_) fun z => ?_⟩
 ·exact out (List.mem_filterMap.mpr ⟨X.env, List.mem_cons_self, by rw [hf, z]⟩)
 ·obtain ⟨e, m, q⟩ := List.mem_filterMap.mp z
  exact out (List.mem_filterMap.mpr ⟨e, List.mem_cons_of_mem _ m, q⟩)
theorem Air.name (A : Air X Z pins σ H a B sI sE h) (hs : X.stack = X.env :: X.outer) (hf : X.env.frame = some X.env.locals) {x : Str} {c : Value} {p : Pos} (hc : Names X x c) {Q E : Value → Shared → Prop} (q : Q c { sE with heap := h }) :
  wpAny (model X.prog X.w) (X.A.mark (some (.ref a))) (eval (.Name x p) X.env) Q E { sE with heap := h } := by
 obtain ⟨oe, _, _, _, _, S⟩ := A.inside hs hf
 obtain ⟨q1, q2, q3⟩ := hc
 rcases q3 with q3 | ⟨q3, q4, q5⟩
 ·exact ld_glob S q1 q3 q q2
 ·exact ld_blt S q1 q3 q4 q q5 q2
theorem Air.test (A : Air X Z pins σ H a B sI sE h) (hz : ∀ o, Z o → Zc cls d o) (hs : X.stack = X.env :: X.outer) (hf : X.env.frame = some X.env.locals) {t : Expr} {us : List Value} {b : Bool} (ht : Tst X t us) (hx : PySem.W.exmAny X.K cls us = some b)
  {Q : Bool → Shared → Prop} {E E' : Value → Shared → Prop} (q : ∀ h1, Air X Z pins σ H a B sI sE h1 → Q b { sE with heap := h1 }) :
  wpAny (model X.prog X.w) (X.A.mark (some (.ref a))) (eval t X.env) (fun c s1 => wpAny (model X.prog X.w) (X.A.mark (some (.ref a))) (excMatches (.ref a) c) Q E s1) E' { sE with heap := h } := by
 have J : Inv X pins σ H { sE with heap := h } := A.inv.landed (s' := { sE with heap := h }) A.nb A.fl.1 A.up A.os A.ag
 obtain ⟨oe, vs, e1, e2, e3⟩ := A.fl.there
 have LT : PySem.W.Looks (model X.prog X.w) h (typeOf (.ref a)) cls := fun A' Q' E' s k q' => wpAny_typeOf_ref (k _ _ e1) (by rw [(hz _ e2).1]; exact q')
 cases ht with
 | one hc =>
  obtain ⟨b1, b2, h1, h2, rfl⟩ := PySem.W.exmAny_cons hx
  cases (show some false = some b2 from h2)
  rw [Bool.or_false] at q
  have LM := PySem.W.exm_one (M := model X.prog X.w) J.kIn LT h1
  exact A.name hs hf hc (LM.here (q h A))
 | @two x y c d' p q' r kk hc hc' =>
  refine wpAny_Tuple ?_
  refine wpAny_items_cons (A.name hs hf hc ?_)
  refine wpAny_items_cons (A.name hs hf hc' ?_)
  refine wpAny_items_nil ⟨by size_fits, ?_⟩
  have kp : ∀ b o, h.get? b = some o → (h.push { cls := .type "tuple", data := .seq [c, d'].toArray }).get? b = some o := fun _ _ z => Heap.get?_push_of_some _ z
  have LM := PySem.W.exm_tup2 (M := model X.prog X.w) (J.kIn.keeps kp) (LT.keeps kp) (Heap.get?_push_size h rfl) hx
  exact LM.here (q _ (A.more kp))
end
section
variable {X : Cx} {body : List Stmt} {h₀ : ExceptHandler} {hds : List ExceptHandler} {l : List (List Value × Nat × (Addr → Value → Option Addr → TS))} {pos : Pos} {tb : WX → TS} {Wout : WX}
end

section
variable {G : Cc} {pos : Pos}
end
end BV
namespace BV
open PySem L2
section
variable {G : Cc} {vol : Ow → Prop} {tg e1 e2 e3 : Expr} {fs : SU} {p pos : Pos}
end
end BV
namespace BV
open PySem PySem.Spec PyProof.Rows L2
section
variable {prog : Program} {w : World} {A : Around} {R : Result → Shared → Prop} {E : Value → Shared → Prop} {I : Addr} {fp wr : List Addr} {n : Nat} {P : Nat → Value → Prop} {St : Nat → Heap → Prop} {T : Nat → Heap → Value → Prop}
end
section
variable {prog : Program} {w : World} {A : Around} {E : Value → Shared → Prop} {s : Shared}
end
section
variable {X : Cx} {pins : List (Addr × Obj)} {σ : L2.St} {H : Hp} {s : Shared}
end
section
variable {G : Cc} {W : WX} {o o1 : Gh} {c c1 : Cs} {ρ : En} {σ : L2.St} {H : Hp} {S : Sto} {pos p pl : Pos} {a : Expr} {f : SE}
end
end BV
namespace BV
open PySem PySem.Spec PyProof.Rows L2
open He (ba eqO eqO_ok ga)

end BV
namespace BV
open PySem PySem.Spec PyProof.Rows L2

section
variable {prog : Program} {w : World} {A : Around} {E : Value → Shared → Prop} {s : Shared}
end
section
variable {G : Cc} {pos : Pos}
end
end BV
namespace BV
open PySem PySem.Spec PyProof.Rows L2
section
variable {X : Cx}
end
section
variable {G : Cc}
end
end BV
namespace BV
open PySem PySem.Spec PyProof.Rows L2
section
variable {X : Cx}
end
section
variable {G : Cc}
end
end BV
namespace BV
open PySem PySem.Spec PyProof.Rows L2
def top (i : Nat) : Stmt := PySem.Challenge.pw_ribboncast_k21_laid_out_by_all_ways.main.body.getD i (.Pass ⟨0, 0, 0, 0⟩)
def N3 : Stmt := top 5
def a1U : Stmt := top 6
def N9 : Stmt := top 7
def a17 : Stmt := top 8
def U6 : Stmt := top 9
def G9 : Stmt := top 10
def E3 : Stmt := top 11
def J2 : Stmt := top 12
def Z8 : Stmt := top 13
def Z0 : Stmt := top 14
def T1 : Stmt := top 16
def Z4 : Stmt := top 17
def T3 : Stmt := top 18
def M7 : Stmt := top 19
def D8 : Stmt := top 20
def T9 : Stmt := top 21
def M8 : Stmt := top 22
def b4G : Stmt := top 23
def a3v : He.DefD := ddO "counts_of" N3
def b0u : He.DefD := ddO "onward" a1U
def a2Q : He.DefD := ddO "most_rows" N9
def a9C : He.DefD := ddO "stairs" a17
def a5c : He.DefD := ddO "best_way" U6
def a0E : He.DefD := ddO "contents_of" G9
def W0 : He.DefD := ddO "rows_of_units" E3
def a1n : He.DefD := ddO "with_blank" J2
def a8c : He.DefD := ddO "lay_out" Z8
def a8S : He.DefD := ddO "cams_in" Z0
def a41 : He.DefD := ddO "_law_cell" T1
def a8q : He.DefD := ddO "_law_bag" Z4
def a5o : He.DefD := ddO "_law_take" T3
def a28 : He.DefD := ddO "_law_least" M7
def W3 : He.DefD := ddO "_law_all_units" D8
def a4K : He.DefD := ddO "_law_due" T9
def a3s : He.DefD := ddO "_law_said" M8
def b6d : He.DefD := ddO "law" b4G
def c1D : List He.DefD := [a3v, b0u, a2Q, a9C, a5c, a0E, W0, a1n, a8c, a8S, a41, a8q, a5o, a28, W3, a4K, a3s, b6d]
def dfL : List He.DefD := c1D
def c1t : List He.Fa := [.glo "counts_of", .glo "onward", .glo "most_rows", .glo "stairs", .glo "best_way", .glo "contents_of", .glo "rows_of_units", .glo "with_blank", .glo "lay_out", .glo "cams_in", .glo "_law_cell", .glo "_law_bag", .glo "_law_take", .glo "_law_least", .glo "_law_all_units", .glo "_law_due", .glo "_law_said", .glo "law", .int "MOST_UNITS" 30, .free "abs", .free "bool", .free "int", .free "isinstance", .free "len", .free "list", .free "max", .free "min", .free "range", .free "sorted", .free "tuple"]
def c1F : List He.Fa := [.glo "NoLayout", .exc "NoLayout"]
def faL : List He.Fa := c1t ++ c1F
def exL : List (PySem.W.Frag → Bool) := [fun K => b02 K "NoLayout"]
def tsL : List He.Tab := []
def c1M : List Str := ["CastError", "NoLayout", "MOST_UNITS", "counts_of", "onward", "most_rows", "stairs", "best_way", "contents_of", "rows_of_units", "with_blank", "lay_out", "cams_in", "_law_cell", "_law_bag", "_law_take", "_law_least", "_law_all_units", "_law_due", "_law_said"]
def nmL : List Str := c1M
abbrev Rw : PySem.W.OpenRow := PySem.W.OpenLaw.row PySem.Challenge.rw_ribboncast_k21_laid_out_by_all_ways
abbrev hk : PySem.W.Hook := b55 4 faL dfL tsL exL
def ob (s : PySem.W.SharedT) : AlB := b9O 4 faL dfL tsL exL (HandSHeadRun.getT s)
theorem ob_eq (s : PySem.W.SharedT) : ob s = hk.obs s.abs := b4k (HandSHeadRun.getT_eq s)
set_option maxHeartbeats 0 in
theorem run (w : World) : HandSHeadRun.RunEq Rw (PySem.W.view Rw.prog [23]) hk ob 9000 nmL w := by
 intro os
 kernel_rfl
end BV
namespace BV
open PySem L2

def L7 : SS := j9 (sIf (cB (d9 gLt (b7 1) (a0t 0))) (O3 (a0L 0 (b7 1))) t4)
  (O3 (cC (.int 0)))
def v8 : Fn := fnL 2 L7
def b4L : SE := d9 C5 (d9 C5 (d9 a2e (cC (.int 10)) (cC (.int 60))) (d9 a2e (cC (.int 10)) (cC (.int 60)))) (d9 a2e (cC (.int 10)) (cC (.int 60)))
def c0p : SE := d9 a2e (cC (.int 10)) (cC (.int 18))
def P4 : SS := j9 (s8 2 (d9 a5K (cB1 b5N (i8 (t9 v8 (d3 (m7 0) (d3 (m7 1) m6))) A9)) b4L))
  (j9 (sIf (cB (d9 gGe (b7 2) c0p)) (O3 (n9 (d3 (m7 2) (d3 (cC (.int 0)) m6)))) t4)
  (j9 (s8 3 (d9 a5K (d9 B2 (d9 B2 (b7 2) (d9 C5 (cC (.int 7919)) (b7 1))) (cC (.int 17))) (cC (.int 2147483647))))
  (j9 (a0Y (a18 Q4 (i8 (cB1 a3k (i8 (a0t 0) (i8 (cC (.int 9)) A9))) A9)) (f9 4)
  (s8 3 (d9 a5K (d9 B2 (d9 B2 (d9 a2e (b7 3) (cC (.int 5))) (d9 a5K (a0L 0 (b7 4)) (cC (.int 2147483629)))) (d9 C5 (cC (.int 31)) (b7 4))) (cC (.int 2147483647)))))
  (O3 (n9 (d3 (m7 3) (d3 (cC (.int 1)) m6)))))))
def D9 : Fn := fnL 5 P4
def L5 : SS := j9 (sIf (cB (d9 (gEq false) (M3 0 (cC (.int 1))) (cC (.int 0)))) (j9 (s8 2 (d9 a5K (M3 0 (cC (.int 0))) (b7 1)))
  (j9 (b0L 0 (cC (.int 0)) (d9 b2M (M3 0 (cC (.int 0))) (b7 1)))
  (U8 2))) t4)
  (j9 (b0L 0 (cC (.int 0)) (d9 a5K (d9 B2 (d9 B2 (d9 a2e (M3 0 (cC (.int 0))) (cC (.int 5))) (d9 C5 (cC (.int 48271)) (M3 0 (cC (.int 1))))) (cC (.int 11))) (cC (.int 2147483647))))
  (j9 (b0L 0 (cC (.int 1)) (d9 B2 (M3 0 (cC (.int 1))) (cC (.int 1))))
  (O3 (d9 a5K (d9 b2M (d9 a5K (d9 C5 (M3 0 (cC (.int 0))) (cC (.int 69621))) (cC (.int 2147483629))) (cC (.int 8))) (b7 1)))))
def j7 : Fn := fnL 3 L5

theorem K3 {n k : Nat} (h : n < 2 ^ (k + 1)) : n.log2 ≤ k := by
 by_cases z : n = 0
 ·subst z; simp
 ·have := (Nat.log2_lt z).mpr h
  omega
structure Bag (m : Nat) (a b : Int) : Prop where
 a0 : 0 ≤ a
 b0 : 0 ≤ b
 bm : b ≤ m
 mx : b = 0 ∨ a < 2147483647
theorem Bag.mono {m m' : Nat} {a b : Int} (h : Bag m a b) (hm : m ≤ m') : Bag m' a b := ⟨h.a0, h.b0, by have := h.bm; omega, h.mx⟩
theorem b0y {ns : List Int} {k : Int} {S : Sto} (h0 : 0 ≤ k) : ∃ n, v8 [.scr ns, .val (.int k)] S = .ok (.val (.int n)) S := by
 unfold v8
 by_cases h : k < ns.length
 ·obtain ⟨v, e, _⟩ := a9K (xs := ns) h0 h
  exact ⟨v, by simp [b1S, L7, h, e]⟩
 ·exact ⟨0, by simp [b1S, L7, h]⟩
theorem a0r {lo : Int} {n i : Nat} {d : D} (h : (j8 lo n)[i]? = some d) : i < n ∧ d = .int (lo + i) := by
 unfold j8 at h
 rw [List.getElem?_map] at h
 by_cases hi : i < n
 ·rw [List.getElem?_range hi] at h
  exact ⟨hi, by simpa using h.symm⟩
 ·rw [List.getElem?_eq_none (by rw [List.length_range]; omega)] at h
  cases h
theorem a0o {n : Nat} (h : n ≤ sizeLine) : Q4 [.int (n : Int)] = some (j8 0 n) := by
 have hc : (n : Int).toNat ≤ sizeLine ∧ w3 (n : Int) = true := ⟨by rw [Int.toNat_natCast]; exact h, J5 (by omega) (by have := sizeLine_eq; omega)⟩
 show (if (n : Int).toNat ≤ sizeLine ∧ w3 (n : Int) = true then some (j8 0 (n : Int).toNat) else none) = _
 rw [if_pos hc, Int.toNat_natCast]
def b9o : Int := 10 ^ 60 * 10 ^ 60 * 10 ^ 60
def P18 : Int := 10 ^ 18
theorem a62 : 0 < b9o := by decide +kernel
@[simp] theorem b6n {ρ : En} {S : Sto} : b4L ρ S = .ok (.val (.int b9o)) S := by
 have e60 : d9 a2e (cC (.int 10)) (cC (.int 60)) ρ S = .ok (.val (.int (10 ^ 60))) S := by
  show R.d (R.ok _ S) _ = _
  show (match a2e (.int 10) (.int 60) with | some t => R.ok t S | none => .bad) = _
  rw [a4q (by decide) (by decide) (by decide)]
  rfl
 have e120 : d9 C5 (d9 a2e (cC (.int 10)) (cC (.int 60))) (d9 a2e (cC (.int 10)) (cC (.int 60))) ρ S = .ok (.val (.int (10 ^ 60 * 10 ^ 60))) S := by
  rw [b69, e60, a1O, e60, a1O, N6 (by decide +kernel)]
 show d9 C5 (d9 C5 (d9 a2e (cC (.int 10)) (cC (.int 60))) (d9 a2e (cC (.int 10)) (cC (.int 60)))) (d9 a2e (cC (.int 10)) (cC (.int 60))) ρ S = _
 rw [b69, e120, a1O, e60, a1O, N6 (by decide +kernel)]
 rfl
@[simp] theorem b9I {ρ : En} {S : Sto} : c0p ρ S = .ok (.val (.int P18)) S := by
 show (match a2e (.int 10) (.int 18) with | some t => R.ok t S | none => .bad) = _
 rw [a4q (by decide) (by decide) (by decide)]
 rfl
theorem b09 {a : Int} (h0 : 0 ≤ a) (h : a < 2147483647) : a2e (.int a) (.int 5) = some (.val (.int (a ^ 5))) := a4q (by decide) (by decide) (by omega)
theorem a01 {j m : Int} (h : 0 < m) : a5K (.int j) (.int m) = some (.val (.int (j % m))) := b3D h
theorem p6 {n : Nat} (h : n ≤ 100000) : n ≤ sizeLine := Nat.le_trans h (by decide)
theorem b2A {ns : List Int} {k : Int} {S : Sto} (h0 : 0 ≤ k) (h1 : k ≤ 1000) (hl : ns.length ≤ 63) : ∃ a b, D9 [.scr ns, .val (.int k)] S = .ok (.own [.int a, .int b]) S ∧ Bag 1 a b := by
 obtain ⟨n, en⟩ := b0y (ns := ns) (S := S) h0
 unfold D9
 have hk : C5 (.int 7919) (.int k) = some (.val (.int (7919 * k))) := N6 (by
  have h : (7919 : Int).natAbs.log2 ≤ 12 := by decide +kernel
  have h2 : k.natAbs.log2 ≤ 12 := K3 (by omega)
  omega)
 generalize ec : (if n < 0 then -n else n) % b9o = c
 have c0 : 0 ≤ c := by rw [← ec]; exact Int.emod_nonneg _ (Int.ne_of_gt a62)
 have e1 : ∀ g, (P4 = j9 (s8 2 (d9 a5K (cB1 b5N (i8 (t9 v8 (d3 (m7 0) (d3 (m7 1) m6))) A9)) b4L)) g) →
   P4 (start0 5 [.scr ns, .val (.int k)]) S = g [some (.scr ns), some (.val (.int k)), some (.val (.int c)), none, none] S := fun g e => by
  rw [e]
  simp [b6n, en, a01 a62, ec]
 rw [b1S, e1 _ rfl]
 by_cases hc : P18 ≤ c
 ·refine ⟨c, 0, ?_, ⟨c0, Int.le_refl _, by omega, .inl rfl⟩⟩
  simp [b9I, hc]
 ·have en' : (ns.length : Int) = ns.length := rfl
  -- the loop
  have em : (if (9 : Int) < ns.length then (9 : Int) else ns.length) = ((min ns.length 9 : Nat) : Int) := by
   split <;> omega
  have hmin : min ns.length 9 ≤ sizeLine := p6 (by omega)
  generalize ec3 : (c + 7919 * k + 17) % 2147483647 = c3
  have c30 : 0 ≤ c3 ∧ c3 < 2147483647 := by rw [← ec3]; constructor <;> omega
  obtain ⟨ρ', S', e2, c4, x, rfl, rfl, h4, h5⟩ := v5 (b := f9 4) (body := s8 3 (d9 a5K (d9 B2 (d9 B2 (d9 a2e (b7 3) (cC (.int 5))) (d9 a5K (a0L 0 (b7 4)) (cC (.int 2147483629)))) (d9 C5 (cC (.int 31)) (b7 4))) (cC (.int 2147483647))))
   (fun _ ρ S' => ∃ c4 x, ρ = [some (.scr ns), some (.val (.int k)), some (.val (.int c)), some (.val (.int c4)), x] ∧ S' = S ∧ (0 ≤ c4 ∧ c4 < 2147483647))
   (j8 0 (min ns.length 9)) 0 [some (.scr ns), some (.val (.int k)), some (.val (.int c)), some (.val (.int c3)), none] S ⟨c3, none, rfl, rfl, c30⟩ (by
    rintro i d ρ S2 hd ⟨c4, x, rfl, rfl, h4, h5⟩
    obtain ⟨hi, rfl⟩ := a0r hd
    have hi' : i < ns.length := by omega
    have g1 : atI ns (0 + (i : Int)) = some ns[i] := by
     rw [Int.zero_add]; exact u9 (List.getElem?_eq_getElem hi')
    rw [Int.zero_add] at g1
    have m1 : C5 (.int 31) (.int (i : Int)) = some (.val (.int (31 * (i : Int)))) := N6 (by
     have h : (31 : Int).natAbs.log2 ≤ 12 := by decide +kernel
     have h2 : (i : Int).natAbs.log2 ≤ 12 := K3 (by omega)
     omega)
    refine ⟨_, rfl, [some (.scr ns), some (.val (.int k)), some (.val (.int c)), some (.val (.int ((c4 ^ 5 + ns[i] % 2147483629 + 31 * (i : Int)) % 2147483647))), some (.val (.int (i : Int)))], S2, .inl ?_, (c4 ^ 5 + ns[i] % 2147483629 + 31 * (i : Int)) % 2147483647, _, rfl, rfl, Int.emod_nonneg _ (by decide), Int.emod_lt_of_pos _ (by decide)⟩
    simp [b09 h4 h5, a01, g1, m1])
  refine ⟨c4, 1, ?_, ⟨h4, by decide, by omega, .inr h5⟩⟩
  simp [hc, hk, a01, ec3, em, a0o hmin, e2]
theorem b01 {S : Sto} {n m : Nat} {a b k : Int} (hS : S[n]? = some (.lst [.int a, .int b])) (hb : Bag m a b) (hm : m ≤ 1000000000) (h0 : 0 < k) (h1 : k < 2 ^ 60) :
  ∃ r a' b', j7 [.cel n, .val (.int k)] S = .ok (.val (.int r)) (S.set n (.lst [.int a', .int b'])) ∧ 0 ≤ r ∧ r < k ∧ Bag (m + 1) a' b' := by
 have hk : a5K (.int a) (.int k) = some (.val (.int (a % k))) := a01 h0
 have hset : ∀ c : Ce, (S.set n c)[n]? = some c := fun c => List.getElem?_set_self (List.getElem?_eq_some_iff.mp hS).1
 have i0 : ∀ x y : D, atI [x, y] 0 = some x := fun x y => rfl
 have i1 : ∀ x y : D, atI [x, y] 1 = some y := fun x y => rfl
 have j0 : ixN 2 0 = some 0 := rfl
 have j1 : ixN 2 1 = some 1 := rfl
 unfold j7
 by_cases z : b = 0
 ·subst z
  have hd : b2M (.int a) (.int k) = some (.val (.int (a / k))) := a42 h0 (by
   have : k.natAbs.log2 ≤ 60 := K3 (by omega)
   omega)
  refine ⟨a % k, a / k, 0, ?_, Int.emod_nonneg _ (by omega), Int.emod_lt_of_pos _ h0, ⟨Int.ediv_nonneg hb.a0 (by omega), Int.le_refl _, by omega, .inl rfl⟩⟩
  simp [b1S, L5, hS, i0, i1, j0, hk, hd]
 ·have hp := hb.mx.resolve_left z
  have hb0 := hb.b0
  have hbm := hb.bm
  have m1 : C5 (.int 48271) (.int b) = some (.val (.int (48271 * b))) := N6 (by
   have h : (48271 : Int).natAbs.log2 ≤ 20 := by decide +kernel
   have h2 : b.natAbs.log2 ≤ 40 := K3 (by omega)
   omega)
  generalize e1 : (a ^ 5 + 48271 * b + 11) % 2147483647 = a'
  have ha0 : 0 ≤ a' := by rw [← e1]; exact Int.emod_nonneg _ (by decide)
  have ha1 : a' < 2147483647 := by rw [← e1]; exact Int.emod_lt_of_pos _ (by decide)
  have m2 : C5 (.int a') (.int 69621) = some (.val (.int (a' * 69621))) := N6 (by
   have h : (69621 : Int).natAbs.log2 ≤ 20 := by decide +kernel
   have h2 : a'.natAbs.log2 ≤ 40 := K3 (by omega)
   omega)
  have d1 : ∀ j : Int, b2M (.int j) (.int 8) = some (.val (.int (j / 8))) := fun j => a42 (by decide) (by decide +kernel)
  refine ⟨a' * 69621 % 2147483629 / 8 % k, a', b + 1, ?_, Int.emod_nonneg _ (by omega), Int.emod_lt_of_pos _ h0, ⟨ha0, by omega, by omega, .inr ha1⟩⟩
  simp [b1S, L5, hS, i0, i1, j0, j1, z, b09 hb.a0 hp, m1, a01, e1, hset, m2, d1, a01 h0]
end BV
namespace BV
open PySem L2

def HasBag (S : Sto) (n m : Nat) : Prop := ∃ a b, S[n]? = some (.lst [.int a, .int b]) ∧ Bag m a b
structure Ext (n : Nat) (S S' : Sto) : Prop where
 len : S'.length = S.length
 rest : ∀ j, j ≠ n → S'[j]? = S[j]?
theorem Ext.refl {n : Nat} {S : Sto} : Ext n S S := ⟨rfl, fun _ _ => rfl⟩
theorem Ext.trans {n : Nat} {S S1 S2 : Sto} (a : Ext n S S1) (b : Ext n S1 S2) : Ext n S S2 := ⟨b.len.trans a.len, fun j h => (b.rest j h).trans (a.rest j h)⟩
theorem Ext.set {n : Nat} {S : Sto} {c : Ce} : Ext n S (S.set n c) := ⟨List.length_set, fun j h => List.getElem?_set_ne (Ne.symm h)⟩
theorem HasBag.mono {S : Sto} {n m m' : Nat} (h : HasBag S n m) (hm : m ≤ m') : HasBag S n m' := by
 obtain ⟨a, b, e, q⟩ := h
 exact ⟨a, b, e, q.mono hm⟩
theorem b5V {S : Sto} {n m : Nat} {k : Int} (hb : HasBag S n m) (hm : m ≤ 1000000000) (h0 : 0 < k) (h1 : k < 2 ^ 60) :
  ∃ r S', j7 [.cel n, .val (.int k)] S = .ok (.val (.int r)) S' ∧ 0 ≤ r ∧ r < k ∧ HasBag S' n (m + 1) ∧ Ext n S S' := by
 obtain ⟨a, b, e, q⟩ := hb
 obtain ⟨r, a', b', h, h2, h3, h4⟩ := b01 e q hm h0 h1
 exact ⟨r, _, h, h2, h3, ⟨a', b', List.getElem?_set_self (List.getElem?_eq_some_iff.mp e).1, h4⟩, Ext.set⟩
end BV
namespace BV
open PySem L2

abbrev d7 := Option (Str × Int)
def o9 : d7 → D
 | none => .none
 | some (x, i) => .tuple [.str x, .int i]
def U9 (r : List d7) : D := .tuple (r.map o9)
def N7 (units : List Int) (rows : List (List d7)) : D := .tuple [.tuple (units.map PyData.int), .tuple (rows.map U9)]
def b7A (c : d7) : Option Str := c.map Prod.fst
def F6 (rows : List (List d7)) : List Str := rows.flatten.filterMap b7A
def blank : Str := " "
structure IsName (x : Str) : Prop where
 pos : 1 ≤ x.length
 most : x.length ≤ 3
 all : ∀ c ∈ x.cps.toList, 97 ≤ c ∧ c ≤ 122
structure b6b (wide high : Nat) (units : List Int) (rows : List (List d7)) : Prop where
 w2 : 2 ≤ wide
 h2 : 2 ≤ high
 hu : units.length = high
 hr : rows.length = high
 hw : ∀ r ∈ rows, r.length = wide
 un : ∀ u ∈ units, 1 ≤ u ∧ u ≤ 30
 cell : ∀ (i j : Nat) (r : List d7) (x : Str) (c : Int), rows[i]? = some r → r[j]? = some (some (x, c)) → (x = blank ∧ c = 0) ∨ (IsName x ∧ (c = 0 ∨ c = 1 ∨ c = -1) ∧ ∃ u, units[i]? = some u ∧ 0 < u + c)
 nd : (F6 rows).Nodup
 bl : blank ∈ F6 rows
 few : (F6 rows).length ≤ 63
theorem b28 {α β : Type} {f : α → Option β} {v u : α} {y : β} (hu : f u = none) (hv : f v = some y) : ∀ {l : List α} {j : Nat}, l[j]? = some u → ((l.set j v).filterMap f).Perm (y :: l.filterMap f)
 | [], _, h => by simp at h
 | a :: l, 0, h => by
  simp at h
  subst h
  rw [List.set_cons_zero, List.filterMap_cons, hv, List.filterMap_cons, hu]
 | a :: l, j + 1, h => by
  have ih := b28 hu hv (l := l) (j := j) (by simpa using h)
  rw [List.set_cons_succ, List.filterMap_cons, List.filterMap_cons]
  cases f a with
  | none => exact ih
  | some z => exact (List.Perm.cons z ih).trans (List.Perm.swap y z _)
theorem b2C {α β : Type} {f : α → Option β} {y : β} {row row' : List α} (p : (row'.filterMap f).Perm (y :: row.filterMap f)) : ∀ {rows : List (List α)} {i : Nat}, rows[i]? = some row → ((rows.set i row').flatten.filterMap f).Perm (y :: rows.flatten.filterMap f)
 | [], _, h => by simp at h
 | a :: rows, 0, h => by
  simp at h
  subst h
  rw [List.set_cons_zero, List.flatten_cons, List.flatten_cons, List.filterMap_append, List.filterMap_append]
  exact p.append_right _
 | a :: rows, i + 1, h => by
  have ih := b2C p (rows := rows) (i := i) (by simpa using h)
  rw [List.set_cons_succ, List.flatten_cons, List.flatten_cons, List.filterMap_append, List.filterMap_append]
  exact (ih.append_left _).trans List.perm_middle
theorem b07 {rows : List (List d7)} {i j : Nat} {row : List d7} {x : Str} {c : Int} (h : rows[i]? = some row) (h' : row[j]? = some none) : (F6 (rows.set i (row.set j (some (x, c))))).Perm (x :: F6 rows) :=
 b2C (b28 (f := b7A) rfl rfl h') h
structure Laying (wide high : Nat) (units : List Int) (rows : List (List d7)) (nms : List Str) : Prop where
 hr : rows.length = high
 hw : ∀ r ∈ rows, r.length = wide
 cell : ∀ (i j : Nat) (r : List d7) (x : Str) (c : Int), rows[i]? = some r → r[j]? = some (some (x, c)) → (x = blank ∧ c = 0) ∨ (IsName x ∧ (c = 0 ∨ c = 1 ∨ c = -1) ∧ ∃ u, units[i]? = some u ∧ 0 < u + c)
 nd : (F6 rows).Nodup
 bl : blank ∈ F6 rows
 sub : ∀ x ∈ F6 rows, x = blank ∨ x ∈ nms
theorem a13 {α : Type} [DecidableEq α] : ∀ {l m : List α}, l.Nodup → (∀ x ∈ l, x ∈ m) → l.length ≤ m.length
 | [], _, _, _ => Nat.zero_le _
 | x :: l, m, h, hs => by
  have h' := List.nodup_cons.mp h
  have hx := hs x (List.mem_cons_self ..)
  have ih := a13 (l := l) (m := m.erase x) h'.2 fun y hy => (List.mem_erase_of_ne (fun z => h'.1 (by rw [← z]; exact hy))).mpr (hs y (List.mem_cons_of_mem _ hy))
  rw [List.length_erase_of_mem hx] at ih
  have : 1 ≤ m.length := by
   cases m with
   | nil => cases hx
   | cons _ _ => simp
  rw [List.length_cons]
  omega
theorem Laying.few {wide high : Nat} {units : List Int} {rows : List (List d7)} {nms : List Str} (l : Laying wide high units rows nms) : (F6 rows).length ≤ nms.length + 1 := by
 have := a13 (m := blank :: nms) l.nd fun x hx => by
  rcases l.sub x hx with e | e
  ·rw [e]; exact List.mem_cons_self ..
  ·exact List.mem_cons_of_mem _ e
 simpa using this
theorem b0T {α : Type} {l : List α} {i k : Nat} {v r : α} (h : (l.set i v)[k]? = some r) : (k = i ∧ r = v) ∨ (k ≠ i ∧ l[k]? = some r) := by
 by_cases e : k = i
 ·subst e
  have hl : k < (l.set k v).length := (List.getElem?_eq_some_iff.mp h).1
  rw [List.length_set] at hl
  rw [List.getElem?_set_self hl] at h
  exact .inl ⟨rfl, (Option.some.inj h).symm⟩
 ·rw [List.getElem?_set_ne (Ne.symm e)] at h
  exact .inr ⟨e, h⟩
theorem Laying.put {wide high : Nat} {units : List Int} {rows : List (List d7)} {nms : List Str} (l : Laying wide high units rows nms) {i j : Nat} {row : List d7} {x : Str} {c : Int} (h : rows[i]? = some row) (h' : row[j]? = some none)
  (hx : IsName x) (hb : x ≠ blank) (hn : x ∉ nms) (hc : c = 0 ∨ c = 1 ∨ c = -1) (hu : ∃ u, units[i]? = some u ∧ 0 < u + c) : Laying wide high units (rows.set i (row.set j (some (x, c)))) (nms ++ [x]) := by
 have P := b07 (x := x) (c := c) h h'
 refine ⟨by rw [List.length_set]; exact l.hr, fun r hr => ?_, fun k m r y d e1 e2 => ?_, ?_, P.mem_iff.mpr (List.mem_cons_of_mem _ l.bl), fun y hy => ?_⟩
 ·rcases List.mem_or_eq_of_mem_set hr with e | e
  ·exact l.hw r e
  ·rw [e, List.length_set]
   exact l.hw row (List.mem_of_getElem? h)
 ·rcases b0T e1 with ⟨rfl, rfl⟩ | ⟨_, e1⟩
  ·rcases b0T e2 with ⟨rfl, e⟩ | ⟨_, e2⟩
   ·simp only [Option.some.injEq, Prod.mk.injEq] at e
    obtain ⟨rfl, rfl⟩ := e
    exact .inr ⟨hx, hc, hu⟩
   ·exact l.cell k m row y d h e2
  ·exact l.cell k m r y d e1 e2
 ·refine P.nodup_iff.mpr (List.nodup_cons.mpr ⟨fun z => ?_, l.nd⟩)
  rcases l.sub x z with e | e
  ·exact hb e
  ·exact hn e
 ·rcases List.mem_cons.mp (P.mem_iff.mp hy) with e | e
  ·exact .inr (by rw [e]; simp)
  ·rcases l.sub y e with e | e
   ·exact .inl e
   ·exact .inr (List.mem_append_left _ e)
theorem b9 {g1 g2 : SS} {ρ ρ1 : En} {S S1 : Sto} {r : Fl} (h1 : g1 ρ S = .nx ρ1 S1) (h2 : g2 ρ1 S1 = r) : j9 g1 g2 ρ S = r := by rw [a8a, h1, b0R, h2]
theorem F7 {n : Nat} {g : SS} {ts : List T} {S S' : Sto} {t : T} (h : g (start0 n ts) S = .rt t S') : fnL n g ts S = .ok t S' := by rw [b1S, h]
theorem a0q {α : Type} {xs : List α} {f : Nat} (h : f ≤ xs.length) : (Z2 xs (some (f : Int)) none) = xs.drop f := by
 unfold Z2
 rw [HT.sIx_nat, HT.sIx_none, Nat.min_eq_left h, List.take_of_length_le (by rw [List.length_drop]; omega)]
theorem a5W {α : Type} {xs : List α} {f : Nat} : (Z2 xs none (some (f : Int))) = xs.take (min f xs.length) := by
 unfold Z2
 rw [HT.sIx_nat, HT.sIx_none, List.drop_zero, Nat.sub_zero]
@[simp] theorem c0H {x : Str} {lo hi : Option Int} : gSl (.str x) lo hi = some (.val (.str (cutS x lo hi))) := rfl
@[simp] theorem K4 {xs : List D} {lo hi : Option Int} : gSl (.list xs) lo hi = some (.own (Z2 xs lo hi)) := rfl
@[simp] theorem c0J {xs : List D} {lo hi : Option Int} : gSl (.tuple xs) lo hi = some (.val (.tuple (Z2 xs lo hi))) := rfl
end BV
namespace BV
open PySem L2

@[simp] theorem c1c {i : Nat} {m : List D → List D → Option (List D × D)} {fs : SA} {k : D → En → Sto → Fl} {ρ : En} {S : Sto} : sLM i m fs k ρ S = (match ρ[i]? with
 | some (some (.own xs)) => sA fs (fun ts ρ S => match a1j ts with
  | some ds => (match m xs ds with | some (xs', d) => k d (ρ.set i (some (.own xs'))) S | none => .bad)
  | none => .bad) ρ S
 | _ => .bad) := rfl
end BV
namespace BV
open PySem L2

@[simp] theorem b9U {src : SI} {b : BT1} {tt : SB} {elt : SE} {vs : List Nat} {ρ : En} {S : Sto} : cLc src b tt elt vs ρ S = R.l (src ρ S) fun ds S1 => R.l (lcM b tt elt (q8 ρ vs) ds S1) fun xs S2 => .ok (.own xs) S2 := rfl
@[simp] theorem b9Z {src : SI} {b : BT1} {tt : SB} {elt : SE} {vs : List Nat} {ρ : En} {S : Sto} : b6O src b tt elt vs ρ S = R.l (src ρ S) fun ds S1 => R.l (a88 b tt elt (q8 ρ vs) ds S1) fun xs S2 => .ok (.own2 xs) S2 := rfl
@[simp] theorem b21 {ρ : En} {S : Sto} : a0w ρ S = .ok true S := rfl
@[simp] theorem b8X {ρ : En} : q8 ρ [] = ρ := rfl
@[simp] theorem c0r {ρ : En} {v : Nat} {vs : List Nat} : q8 ρ (v :: vs) = (q8 ρ vs).set v none := rfl
theorem y0 {lo : Int} {n : Nat} : (j8 lo n).length = n := by unfold j8; simp
theorem a9V {b : BT1} {elt : SE} {ρ : En} {S : Sto} (f : D → D) : ∀ (ds : List D), (∀ d ∈ ds, ∃ ρ1 t, b d ρ = some ρ1 ∧ elt ρ1 S = .ok t S ∧ asD t = some (f d)) → lcM b a0w elt ρ ds S = .ok (ds.map f) S
 | [], _ => rfl
 | d :: ds, h => by
  obtain ⟨ρ1, t, e1, e2, e3⟩ := h d (List.mem_cons_self ..)
  have ih := a9V f ds fun d hd => h d (List.mem_cons_of_mem _ hd)
  unfold lcM
  simp only [e1, b21, e2, e3, ih, M4, List.map_cons]
theorem b1W {xs : List D} {k : Nat} (h : k < 2 ^ 60) (h2 : xs.length * k ≤ sizeLine) : C5 (.list xs) (.int (k : Int)) = some (.own (List.replicate k xs).flatten) := by
 have hc : w3 (k : Int) = true ∧ xs.length * (k : Int).toNat ≤ sizeLine := ⟨J5 (by omega) (by omega), by rw [Int.toNat_natCast]; exact h2⟩
 simp only [C5]
 rw [if_pos hc, Int.toNat_natCast]
theorem P5 {α : Type} (x : α) : ∀ k : Nat, (List.replicate k [x]).flatten = List.replicate k x
 | 0 => rfl
 | k + 1 => by rw [List.replicate_succ, List.flatten_cons, P5 x k]; rfl
end BV
namespace BV
open PySem L2

@[simp] theorem c2e {α : Type} {x y : α} : atI [x, y] 0 = some x := rfl
@[simp] theorem c2i {α : Type} {x y : α} : atI [x, y] 1 = some y := rfl
theorem a0T {b : BT1} {tt : SB} {elt : SE} {ρ : En} {S : Sto} (p : D → Bool) : ∀ (ds : List D), (∀ d ∈ ds, ∃ ρ1, b d ρ = some ρ1 ∧ tt ρ1 S = .ok (p d) S ∧ elt ρ1 S = .ok (.val d) S) → lcM b tt elt ρ ds S = .ok (ds.filter p) S
 | [], _ => rfl
 | d :: ds, h => by
  obtain ⟨ρ1, e1, e2, e3⟩ := h d (List.mem_cons_self ..)
  have ih := a0T p ds fun d hd => h d (List.mem_cons_of_mem _ hd)
  unfold lcM
  cases q : p d with
  | true => simp only [e1, e2, q, e3, a3e, ih, M4, List.filter_cons, if_true]
  | false => simp only [e1, e2, q, ih, List.filter_cons, Bool.false_eq_true, if_false]
theorem b4v {S : Sto} {a b : Int} (h : Bag 1 a b) : HasBag (S ++ [.lst [.int a, .int b]]) S.length 1 := ⟨a, b, by rw [List.getElem?_append_right (Nat.le_refl _), Nat.sub_self]; rfl, h⟩
theorem a5S : kitB "int" "int" = some true := by decide +kernel
theorem a2C : kitB "int" "bool" = some false := by decide +kernel
@[simp] theorem b5O {i : Int} : H7 "int" (.int i) = some (.val (.bool true)) := by
 show (if n0 (.int i) = true then none else (kitB "int" "int").map fun b => T.val (.bool b)) = _
 rw [a5S]
 rfl
@[simp] theorem b4Q {i : Int} : H7 "bool" (.int i) = some (.val (.bool false)) := by
 show (if n0 (.int i) = true then none else (kitB "int" "bool").map fun b => T.val (.bool b)) = _
 rw [a2C]
 rfl
theorem G0 {n i : Nat} {d : D} (h : (j8 0 n)[i]? = some d) : i < n ∧ d = .int i := by
 obtain ⟨h1, h2⟩ := a0r h
 rw [Int.zero_add] at h2
 exact ⟨h1, h2⟩
theorem a1f {α : Type} {b : BT1} {elt : SE} {ρ : En} {S : Sto} (u : α → D) (f : α → D) : ∀ (xs : List α), (∀ x ∈ xs, ∃ ρ1 t, b (u x) ρ = some ρ1 ∧ elt ρ1 S = .ok t S ∧ asD t = some (f x)) → lcM b a0w elt ρ (xs.map u) S = .ok (xs.map f) S
 | [], _ => rfl
 | d :: ds, h => by
  obtain ⟨ρ1, t, e1, e2, e3⟩ := h d (List.mem_cons_self ..)
  have ih := a1f u f ds fun d hd => h d (List.mem_cons_of_mem _ hd)
  rw [List.map_cons]
  unfold lcM
  simp only [e1, b21, e2, e3, ih, M4, List.map_cons]
theorem ok_cps {x : Str} : PyData.strOk x = true ↔ ∀ c ∈ x.cps.toList, c < 0x110000 := by
 show x.cps.all (fun y => decide (y < 0x110000)) = true ↔ _
 rw [← Array.all_toList, List.all_eq_true]
 simp
theorem a9D {d : D} (h : I7 d = true) (hc : PyData.canLay0 d = true) : gEq false d d = some (.val (.bool true)) := by
 unfold gEq
 rw [h, SeqAt.eqv_refl d hc]
 rfl
def a03 : Nat → D → Bool
 | _, .none => true
 | _, .bool _ => true
 | _, .int _ => true
 | _, .str x => PyData.strOk x
 | 0, _ => false
 | n + 1, .list xs => xs.all (a03 n)
 | n + 1, .tuple xs => xs.all (a03 n)
 | _ + 1, .dict _ => false
theorem P8 {n : Nat} : ∀ {xs : List D}, (∀ x ∈ xs, x.depth ≤ n) → PyData.depthAll xs ≤ n
 | [], _ => by simp [PyData.depthAll]
 | x :: xs, h => by
  have h1 := h x (List.mem_cons_self ..)
  have h2 := P8 fun y hy => h y (List.mem_cons_of_mem _ hy)
  simp only [PyData.depthAll]
  omega
theorem a7c : ∀ {xs : List D}, (∀ x ∈ xs, E2 x = true) → w9 xs = true
 | [], _ => rfl
 | x :: xs, h => by rw [w9, h x (List.mem_cons_self ..), a7c fun y hy => h y (List.mem_cons_of_mem _ hy)]; rfl
theorem a4F : ∀ {xs : List D}, (∀ x ∈ xs, PyData.canLay0 x = true) → PyData.canLayAll0 xs = true
 | [], _ => by simp [PyData.canLayAll0]
 | x :: xs, h => by
  have h1 := h x (List.mem_cons_self ..)
  have h2 := a4F fun y hy => h y (List.mem_cons_of_mem _ hy)
  simp [PyData.canLayAll0, h1, h2]
theorem D6 : ∀ {n : Nat} {d : D}, a03 n d = true → E2 d = true ∧ d.depth ≤ n ∧ PyData.canLay0 d = true
 | n, .none, _ => ⟨rfl, by simp [PyData.depth], by simp [PyData.canLay0]⟩
 | n, .bool b, _ => ⟨rfl, by simp [PyData.depth], by simp [PyData.canLay0]⟩
 | n, .int i, _ => ⟨rfl, by simp [PyData.depth], by simp [PyData.canLay0]⟩
 | n, .str x, h => ⟨rfl, by simp [PyData.depth], by
  have h' : PyData.strOk x = true := by cases n <;> exact h
  exact h'⟩
 | 0, .list xs, h => nomatch h
 | 0, .tuple xs, h => nomatch h
 | 0, .dict xs, h => nomatch h
 | n + 1, .list xs, h => by
  have h' : xs.all (a03 n) = true := h
  rw [List.all_eq_true] at h'
  exact ⟨a7c fun x hx => (D6 (h' x hx)).1, by
   have := P8 fun x hx => (D6 (h' x hx)).2.1
   simp only [PyData.depth]
   omega, a4F fun x hx => (D6 (h' x hx)).2.2⟩
 | n + 1, .tuple xs, h => by
  have h' : xs.all (a03 n) = true := h
  rw [List.all_eq_true] at h'
  exact ⟨a7c fun x hx => (D6 (h' x hx)).1, by
   have := P8 fun x hx => (D6 (h' x hx)).2.1
   simp only [PyData.depth]
   omega, a4F fun x hx => (D6 (h' x hx)).2.2⟩
 | n + 1, .dict xs, h => nomatch h
end BV
namespace BV
open PySem L2

@[simp] theorem b2b : E6 "NoHoles" = true := by decide +kernel
@[simp] theorem b2Q : E6 "NoCase" = true := by decide +kernel
@[simp] theorem b3c : E6 "NoName" = true := by decide +kernel
@[simp] theorem b1h : E6 "NoLayout" = true := by decide +kernel
@[simp] theorem b42 : E6 "Tight" = true := by decide +kernel
@[simp] theorem b4Z : E6 "Loose" = true := by decide +kernel
@[simp] theorem b1Y : E6 "NoLines" = true := by decide +kernel
@[simp] theorem b2d : E6 "TooMany" = true := by decide +kernel
@[simp] theorem b3X : E6 "NoEnd" = true := by decide +kernel
@[simp] theorem b2I : E6 "NoMold" = true := by decide +kernel
@[simp] theorem b3j : E6 "NoLine" = true := by decide +kernel
@[simp] theorem b2f : E6 "NoPaper" = true := by decide +kernel
@[simp] theorem b3s : E6 "NoText" = true := by decide +kernel
@[simp] theorem b4O : E6 "NoRow" = true := by decide +kernel
@[simp] theorem b2T : E6 "NoStep" = true := by decide +kernel
@[simp] theorem b0Z : E6 "CastError" = true := by decide +kernel
@[simp] theorem b61 {x : Str} : d6 x "CastError" = true := by simp [d6]
@[simp] theorem b5X {x : Str} : d6 x "ValueError" = true := by simp [d6]
@[simp] theorem a30 : d6 "NoHoles" "NoHoles" = true := by decide +kernel
@[simp] theorem a4A : d6 "NoHoles" "NoCase" = false := by decide +kernel
@[simp] theorem a4H : d6 "NoHoles" "NoName" = false := by decide +kernel
@[simp] theorem a3C : d6 "NoHoles" "NoLayout" = false := by decide +kernel
@[simp] theorem a7v : d6 "NoHoles" "Tight" = false := by decide +kernel
@[simp] theorem a6n : d6 "NoHoles" "Loose" = false := by decide +kernel
@[simp] theorem a3Z : d6 "NoHoles" "NoLines" = false := by decide +kernel
@[simp] theorem a32 : d6 "NoHoles" "TooMany" = false := by decide +kernel
@[simp] theorem a7m : d6 "NoHoles" "NoEnd" = false := by decide +kernel
@[simp] theorem a48 : d6 "NoHoles" "NoMold" = false := by decide +kernel
@[simp] theorem a5s : d6 "NoHoles" "NoLine" = false := by decide +kernel
@[simp] theorem a3T : d6 "NoHoles" "NoPaper" = false := by decide +kernel
@[simp] theorem a4D : d6 "NoHoles" "NoText" = false := by decide +kernel
@[simp] theorem a6y : d6 "NoHoles" "NoRow" = false := by decide +kernel
@[simp] theorem a5n : d6 "NoHoles" "NoStep" = false := by decide +kernel
@[simp] theorem a5q : d6 "NoCase" "NoHoles" = false := by decide +kernel
@[simp] theorem a6U : d6 "NoCase" "NoCase" = true := by decide +kernel
@[simp] theorem a6s : d6 "NoCase" "NoName" = false := by decide +kernel
@[simp] theorem a3Q : d6 "NoCase" "NoLayout" = false := by decide +kernel
@[simp] theorem a85 : d6 "NoCase" "Tight" = false := by decide +kernel
@[simp] theorem a84 : d6 "NoCase" "Loose" = false := by decide +kernel
@[simp] theorem a5w : d6 "NoCase" "NoLines" = false := by decide +kernel
@[simp] theorem a5k : d6 "NoCase" "TooMany" = false := by decide +kernel
@[simp] theorem a80 : d6 "NoCase" "NoEnd" = false := by decide +kernel
@[simp] theorem a56 : d6 "NoCase" "NoMold" = false := by decide +kernel
@[simp] theorem a7r : d6 "NoCase" "NoLine" = false := by decide +kernel
@[simp] theorem a51 : d6 "NoCase" "NoPaper" = false := by decide +kernel
@[simp] theorem a6l : d6 "NoCase" "NoText" = false := by decide +kernel
@[simp] theorem a8B : d6 "NoCase" "NoRow" = false := by decide +kernel
@[simp] theorem a6j : d6 "NoCase" "NoStep" = false := by decide +kernel
@[simp] theorem a5v : d6 "NoName" "NoHoles" = false := by decide +kernel
@[simp] theorem a66 : d6 "NoName" "NoCase" = false := by decide +kernel
@[simp] theorem a7C : d6 "NoName" "NoName" = true := by decide +kernel
@[simp] theorem a3L : d6 "NoName" "NoLayout" = false := by decide +kernel
@[simp] theorem a8h : d6 "NoName" "Tight" = false := by decide +kernel
@[simp] theorem a8u : d6 "NoName" "Loose" = false := by decide +kernel
@[simp] theorem a4S : d6 "NoName" "NoLines" = false := by decide +kernel
@[simp] theorem a52 : d6 "NoName" "TooMany" = false := by decide +kernel
@[simp] theorem a70 : d6 "NoName" "NoEnd" = false := by decide +kernel
@[simp] theorem a7N : d6 "NoName" "NoMold" = false := by decide +kernel
@[simp] theorem a58 : d6 "NoName" "NoLine" = false := by decide +kernel
@[simp] theorem a5Q : d6 "NoName" "NoPaper" = false := by decide +kernel
@[simp] theorem a7I : d6 "NoName" "NoText" = false := by decide +kernel
@[simp] theorem a7X : d6 "NoName" "NoRow" = false := by decide +kernel
@[simp] theorem a6R : d6 "NoName" "NoStep" = false := by decide +kernel
@[simp] theorem a23 : d6 "NoLayout" "NoHoles" = false := by decide +kernel
@[simp] theorem a3G : d6 "NoLayout" "NoCase" = false := by decide +kernel
@[simp] theorem a3R : d6 "NoLayout" "NoName" = false := by decide +kernel
@[simp] theorem a2a : d6 "NoLayout" "NoLayout" = true := by decide +kernel
@[simp] theorem a5X : d6 "NoLayout" "Tight" = false := by decide +kernel
@[simp] theorem a4T : d6 "NoLayout" "Loose" = false := by decide +kernel
@[simp] theorem a2G : d6 "NoLayout" "NoLines" = false := by decide +kernel
@[simp] theorem a3A : d6 "NoLayout" "TooMany" = false := by decide +kernel
@[simp] theorem a5O : d6 "NoLayout" "NoEnd" = false := by decide +kernel
@[simp] theorem a39 : d6 "NoLayout" "NoMold" = false := by decide +kernel
@[simp] theorem a3S : d6 "NoLayout" "NoLine" = false := by decide +kernel
@[simp] theorem a2w : d6 "NoLayout" "NoPaper" = false := by decide +kernel
@[simp] theorem a3H : d6 "NoLayout" "NoText" = false := by decide +kernel
@[simp] theorem a47 : d6 "NoLayout" "NoRow" = false := by decide +kernel
@[simp] theorem a3P : d6 "NoLayout" "NoStep" = false := by decide +kernel
@[simp] theorem a6L : d6 "Tight" "NoHoles" = false := by decide +kernel
@[simp] theorem a8p : d6 "Tight" "NoCase" = false := by decide +kernel
@[simp] theorem a9e : d6 "Tight" "NoName" = false := by decide +kernel
@[simp] theorem a5p : d6 "Tight" "NoLayout" = false := by decide +kernel
@[simp] theorem a9s : d6 "Tight" "Tight" = true := by decide +kernel
@[simp] theorem a9x : d6 "Tight" "Loose" = false := by decide +kernel
@[simp] theorem a6W : d6 "Tight" "NoLines" = false := by decide +kernel
@[simp] theorem a6Z : d6 "Tight" "TooMany" = false := by decide +kernel
@[simp] theorem a9r : d6 "Tight" "NoEnd" = false := by decide +kernel
@[simp] theorem a83 : d6 "Tight" "NoMold" = false := by decide +kernel
@[simp] theorem a8y : d6 "Tight" "NoLine" = false := by decide +kernel
@[simp] theorem a6m : d6 "Tight" "NoPaper" = false := by decide +kernel
@[simp] theorem a7V : d6 "Tight" "NoText" = false := by decide +kernel
@[simp] theorem a9z : d6 "Tight" "NoRow" = false := by decide +kernel
@[simp] theorem a8W : d6 "Tight" "NoStep" = false := by decide +kernel
@[simp] theorem a6M : d6 "Loose" "NoHoles" = false := by decide +kernel
@[simp] theorem a7U : d6 "Loose" "NoCase" = false := by decide +kernel
@[simp] theorem a8T : d6 "Loose" "NoName" = false := by decide +kernel
@[simp] theorem a4l : d6 "Loose" "NoLayout" = false := by decide +kernel
@[simp] theorem a9p : d6 "Loose" "Tight" = false := by decide +kernel
@[simp] theorem a9f : d6 "Loose" "Loose" = true := by decide +kernel
@[simp] theorem a7w : d6 "Loose" "NoLines" = false := by decide +kernel
@[simp] theorem a6D : d6 "Loose" "TooMany" = false := by decide +kernel
@[simp] theorem a9o : d6 "Loose" "NoEnd" = false := by decide +kernel
@[simp] theorem a7Y : d6 "Loose" "NoMold" = false := by decide +kernel
@[simp] theorem a7Q : d6 "Loose" "NoLine" = false := by decide +kernel
@[simp] theorem a6H : d6 "Loose" "NoPaper" = false := by decide +kernel
@[simp] theorem a8v : d6 "Loose" "NoText" = false := by decide +kernel
@[simp] theorem a9j : d6 "Loose" "NoRow" = false := by decide +kernel
@[simp] theorem a8N : d6 "Loose" "NoStep" = false := by decide +kernel
@[simp] theorem a3V : d6 "NoLines" "NoHoles" = false := by decide +kernel
@[simp] theorem a46 : d6 "NoLines" "NoCase" = false := by decide +kernel
@[simp] theorem a4Q : d6 "NoLines" "NoName" = false := by decide +kernel
@[simp] theorem a2E : d6 "NoLines" "NoLayout" = false := by decide +kernel
@[simp] theorem a63 : d6 "NoLines" "Tight" = false := by decide +kernel
@[simp] theorem a6K : d6 "NoLines" "Loose" = false := by decide +kernel
@[simp] theorem a3J : d6 "NoLines" "NoLines" = true := by decide +kernel
@[simp] theorem a3I : d6 "NoLines" "TooMany" = false := by decide +kernel
@[simp] theorem a6N : d6 "NoLines" "NoEnd" = false := by decide +kernel
@[simp] theorem a5i : d6 "NoLines" "NoMold" = false := by decide +kernel
@[simp] theorem a4M : d6 "NoLines" "NoLine" = false := by decide +kernel
@[simp] theorem a31 : d6 "NoLines" "NoPaper" = false := by decide +kernel
@[simp] theorem a4N : d6 "NoLines" "NoText" = false := by decide +kernel
@[simp] theorem a7x : d6 "NoLines" "NoRow" = false := by decide +kernel
@[simp] theorem a5b : d6 "NoLines" "NoStep" = false := by decide +kernel
@[simp] theorem a3W : d6 "TooMany" "NoHoles" = false := by decide +kernel
@[simp] theorem a4W : d6 "TooMany" "NoCase" = false := by decide +kernel
@[simp] theorem a4R : d6 "TooMany" "NoName" = false := by decide +kernel
@[simp] theorem a3u : d6 "TooMany" "NoLayout" = false := by decide +kernel
@[simp] theorem a7B : d6 "TooMany" "Tight" = false := by decide +kernel
@[simp] theorem a6k : d6 "TooMany" "Loose" = false := by decide +kernel
@[simp] theorem a38 : d6 "TooMany" "NoLines" = false := by decide +kernel
@[simp] theorem a3Y : d6 "TooMany" "TooMany" = true := by decide +kernel
@[simp] theorem a69 : d6 "TooMany" "NoEnd" = false := by decide +kernel
@[simp] theorem a4E : d6 "TooMany" "NoMold" = false := by decide +kernel
@[simp] theorem a5D : d6 "TooMany" "NoLine" = false := by decide +kernel
@[simp] theorem a3M : d6 "TooMany" "NoPaper" = false := by decide +kernel
@[simp] theorem a4r : d6 "TooMany" "NoText" = false := by decide +kernel
@[simp] theorem a7e : d6 "TooMany" "NoRow" = false := by decide +kernel
@[simp] theorem a4c : d6 "TooMany" "NoStep" = false := by decide +kernel
@[simp] theorem a7n : d6 "NoEnd" "NoHoles" = false := by decide +kernel
@[simp] theorem a8n : d6 "NoEnd" "NoCase" = false := by decide +kernel
@[simp] theorem a8P : d6 "NoEnd" "NoName" = false := by decide +kernel
@[simp] theorem a53 : d6 "NoEnd" "NoLayout" = false := by decide +kernel
@[simp] theorem a9l : d6 "NoEnd" "Tight" = false := by decide +kernel
@[simp] theorem a9w : d6 "NoEnd" "Loose" = false := by decide +kernel
@[simp] theorem a7s : d6 "NoEnd" "NoLines" = false := by decide +kernel
@[simp] theorem a6b : d6 "NoEnd" "TooMany" = false := by decide +kernel
@[simp] theorem a9i : d6 "NoEnd" "NoEnd" = true := by decide +kernel
@[simp] theorem a82 : d6 "NoEnd" "NoMold" = false := by decide +kernel
@[simp] theorem a8m : d6 "NoEnd" "NoLine" = false := by decide +kernel
@[simp] theorem a6a : d6 "NoEnd" "NoPaper" = false := by decide +kernel
@[simp] theorem a72 : d6 "NoEnd" "NoText" = false := by decide +kernel
@[simp] theorem a9h : d6 "NoEnd" "NoRow" = false := by decide +kernel
@[simp] theorem a8i : d6 "NoEnd" "NoStep" = false := by decide +kernel
@[simp] theorem a4J : d6 "NoMold" "NoHoles" = false := by decide +kernel
@[simp] theorem a7k : d6 "NoMold" "NoCase" = false := by decide +kernel
@[simp] theorem a6r : d6 "NoMold" "NoName" = false := by decide +kernel
@[simp] theorem a3O : d6 "NoMold" "NoLayout" = false := by decide +kernel
@[simp] theorem a9d : d6 "NoMold" "Tight" = false := by decide +kernel
@[simp] theorem a8t : d6 "NoMold" "Loose" = false := by decide +kernel
@[simp] theorem a5P : d6 "NoMold" "NoLines" = false := by decide +kernel
@[simp] theorem a5d : d6 "NoMold" "TooMany" = false := by decide +kernel
@[simp] theorem a8J : d6 "NoMold" "NoEnd" = false := by decide +kernel
@[simp] theorem a7p : d6 "NoMold" "NoMold" = true := by decide +kernel
@[simp] theorem a7H : d6 "NoMold" "NoLine" = false := by decide +kernel
@[simp] theorem a4Y : d6 "NoMold" "NoPaper" = false := by decide +kernel
@[simp] theorem a6o : d6 "NoMold" "NoText" = false := by decide +kernel
@[simp] theorem a8s : d6 "NoMold" "NoRow" = false := by decide +kernel
@[simp] theorem a7L : d6 "NoMold" "NoStep" = false := by decide +kernel
@[simp] theorem a5g : d6 "NoLine" "NoHoles" = false := by decide +kernel
@[simp] theorem a7a : d6 "NoLine" "NoCase" = false := by decide +kernel
@[simp] theorem a6A : d6 "NoLine" "NoName" = false := by decide +kernel
@[simp] theorem a4a : d6 "NoLine" "NoLayout" = false := by decide +kernel
@[simp] theorem a8I : d6 "NoLine" "Tight" = false := by decide +kernel
@[simp] theorem a8o : d6 "NoLine" "Loose" = false := by decide +kernel
@[simp] theorem a49 : d6 "NoLine" "NoLines" = false := by decide +kernel
@[simp] theorem a4i : d6 "NoLine" "TooMany" = false := by decide +kernel
@[simp] theorem a89 : d6 "NoLine" "NoEnd" = false := by decide +kernel
@[simp] theorem a6J : d6 "NoLine" "NoMold" = false := by decide +kernel
@[simp] theorem a6i : d6 "NoLine" "NoLine" = true := by decide +kernel
@[simp] theorem a4Z : d6 "NoLine" "NoPaper" = false := by decide +kernel
@[simp] theorem a6z : d6 "NoLine" "NoText" = false := by decide +kernel
@[simp] theorem a8k : d6 "NoLine" "NoRow" = false := by decide +kernel
@[simp] theorem a6C : d6 "NoLine" "NoStep" = false := by decide +kernel
@[simp] theorem a34 : d6 "NoPaper" "NoHoles" = false := by decide +kernel
@[simp] theorem a5C : d6 "NoPaper" "NoCase" = false := by decide +kernel
@[simp] theorem a4O : d6 "NoPaper" "NoName" = false := by decide +kernel
@[simp] theorem a3D : d6 "NoPaper" "NoLayout" = false := by decide +kernel
@[simp] theorem a6t : d6 "NoPaper" "Tight" = false := by decide +kernel
@[simp] theorem a6e : d6 "NoPaper" "Loose" = false := by decide +kernel
@[simp] theorem a35 : d6 "NoPaper" "NoLines" = false := by decide +kernel
@[simp] theorem a3K : d6 "NoPaper" "TooMany" = false := by decide +kernel
@[simp] theorem a6x : d6 "NoPaper" "NoEnd" = false := by decide +kernel
@[simp] theorem a4g : d6 "NoPaper" "NoMold" = false := by decide +kernel
@[simp] theorem a5r : d6 "NoPaper" "NoLine" = false := by decide +kernel
@[simp] theorem a3X : d6 "NoPaper" "NoPaper" = true := by decide +kernel
@[simp] theorem a4v : d6 "NoPaper" "NoText" = false := by decide +kernel
@[simp] theorem a6Y : d6 "NoPaper" "NoRow" = false := by decide +kernel
@[simp] theorem a4y : d6 "NoPaper" "NoStep" = false := by decide +kernel
@[simp] theorem a5G : d6 "NoText" "NoHoles" = false := by decide +kernel
@[simp] theorem a6v : d6 "NoText" "NoCase" = false := by decide +kernel
@[simp] theorem a6p : d6 "NoText" "NoName" = false := by decide +kernel
@[simp] theorem a3N : d6 "NoText" "NoLayout" = false := by decide +kernel
@[simp] theorem a8z : d6 "NoText" "Tight" = false := by decide +kernel
@[simp] theorem a8O : d6 "NoText" "Loose" = false := by decide +kernel
@[simp] theorem a4s : d6 "NoText" "NoLines" = false := by decide +kernel
@[simp] theorem a5u : d6 "NoText" "TooMany" = false := by decide +kernel
@[simp] theorem a8V : d6 "NoText" "NoEnd" = false := by decide +kernel
@[simp] theorem a6Q : d6 "NoText" "NoMold" = false := by decide +kernel
@[simp] theorem a6d : d6 "NoText" "NoLine" = false := by decide +kernel
@[simp] theorem a5x : d6 "NoText" "NoPaper" = false := by decide +kernel
@[simp] theorem a6I : d6 "NoText" "NoText" = true := by decide +kernel
@[simp] theorem a8X : d6 "NoText" "NoRow" = false := by decide +kernel
@[simp] theorem a6h : d6 "NoText" "NoStep" = false := by decide +kernel
@[simp] theorem a6X : d6 "NoRow" "NoHoles" = false := by decide +kernel
@[simp] theorem a86 : d6 "NoRow" "NoCase" = false := by decide +kernel
@[simp] theorem a8e : d6 "NoRow" "NoName" = false := by decide +kernel
@[simp] theorem a43 : d6 "NoRow" "NoLayout" = false := by decide +kernel
@[simp] theorem a9q : d6 "NoRow" "Tight" = false := by decide +kernel
@[simp] theorem a9n : d6 "NoRow" "Loose" = false := by decide +kernel
@[simp] theorem a6u : d6 "NoRow" "NoLines" = false := by decide +kernel
@[simp] theorem a6F : d6 "NoRow" "TooMany" = false := by decide +kernel
@[simp] theorem a9g : d6 "NoRow" "NoEnd" = false := by decide +kernel
@[simp] theorem a74 : d6 "NoRow" "NoMold" = false := by decide +kernel
@[simp] theorem a76 : d6 "NoRow" "NoLine" = false := by decide +kernel
@[simp] theorem a60 : d6 "NoRow" "NoPaper" = false := by decide +kernel
@[simp] theorem a87 : d6 "NoRow" "NoText" = false := by decide +kernel
@[simp] theorem a9v : d6 "NoRow" "NoRow" = true := by decide +kernel
@[simp] theorem a8d : d6 "NoRow" "NoStep" = false := by decide +kernel
@[simp] theorem a4m : d6 "NoStep" "NoHoles" = false := by decide +kernel
@[simp] theorem a6O : d6 "NoStep" "NoCase" = false := by decide +kernel
@[simp] theorem a6E : d6 "NoStep" "NoName" = false := by decide +kernel
@[simp] theorem a3F : d6 "NoStep" "NoLayout" = false := by decide +kernel
@[simp] theorem a8f : d6 "NoStep" "Tight" = false := by decide +kernel
@[simp] theorem a7W : d6 "NoStep" "Loose" = false := by decide +kernel
@[simp] theorem a5R : d6 "NoStep" "NoLines" = false := by decide +kernel
@[simp] theorem a4j : d6 "NoStep" "TooMany" = false := by decide +kernel
@[simp] theorem a8j : d6 "NoStep" "NoEnd" = false := by decide +kernel
@[simp] theorem a57 : d6 "NoStep" "NoMold" = false := by decide +kernel
@[simp] theorem a7E : d6 "NoStep" "NoLine" = false := by decide +kernel
@[simp] theorem a4k : d6 "NoStep" "NoPaper" = false := by decide +kernel
@[simp] theorem a7F : d6 "NoStep" "NoText" = false := by decide +kernel
@[simp] theorem a78 : d6 "NoStep" "NoRow" = false := by decide +kernel
@[simp] theorem a6q : d6 "NoStep" "NoStep" = true := by decide +kernel
@[simp] theorem a2b : d6 "CastError" "NoHoles" = false := by decide +kernel
@[simp] theorem a2M : d6 "CastError" "NoCase" = false := by decide +kernel
@[simp] theorem a2m : d6 "CastError" "NoName" = false := by decide +kernel
@[simp] theorem a1T : d6 "CastError" "NoLayout" = false := by decide +kernel
@[simp] theorem a3U : d6 "CastError" "Tight" = false := by decide +kernel
@[simp] theorem a3E : d6 "CastError" "Loose" = false := by decide +kernel
@[simp] theorem a2c : d6 "CastError" "NoLines" = false := by decide +kernel
@[simp] theorem a19 : d6 "CastError" "TooMany" = false := by decide +kernel
@[simp] theorem a33 : d6 "CastError" "NoEnd" = false := by decide +kernel
@[simp] theorem a3c : d6 "CastError" "NoMold" = false := by decide +kernel
@[simp] theorem a2k : d6 "CastError" "NoLine" = false := by decide +kernel
@[simp] theorem a2d : d6 "CastError" "NoPaper" = false := by decide +kernel
@[simp] theorem a2J : d6 "CastError" "NoText" = false := by decide +kernel
@[simp] theorem a36 : d6 "CastError" "NoRow" = false := by decide +kernel
@[simp] theorem a2Y : d6 "CastError" "NoStep" = false := by decide +kernel
@[simp] theorem c15 {g : SS} {hs : List (Str × SS)} {ρ : En} {S : Sto} : b7Q g hs ρ S = (match g ρ S with
 | .ex e ρ1 S1 => if E6 e.cls then hdl hs e ρ1 S1 else .bad
 | r => r) := rfl
@[simp] theorem b9k {e : Exc} {ρ : En} {S : Sto} : hdl [] e ρ S = .ex e ρ S := rfl
@[simp] theorem b7T {c : Str} {g : SS} {r : List (Str × SS)} {e : Exc} {ρ : En} {S : Sto} : hdl ((c, g) :: r) e ρ S = if d6 e.cls c then a4u (g ρ S) else hdl r e ρ S := rfl
@[simp] theorem b9j {ρ : En} {S : Sto} : a4u (.nx ρ S) = .nx ρ S := rfl
@[simp] theorem b9e {t : T} {S : Sto} : a4u (.rt t S) = .rt t S := rfl
@[simp] theorem b8Z {ρ : En} {S : Sto} : a4u (.bk ρ S) = .bk ρ S := rfl
@[simp] theorem b9D {ρ : En} {S : Sto} : a4u (.ct ρ S) = .ct ρ S := rfl
end BV
namespace BV
open PySem L2

theorem a26 : kitB "NoneType" "int" = some false := by decide +kernel
@[simp] theorem b5H  : H7 "int" (.none) = some (.val (.bool false)) := by
 show (if n0 (.none) = true then none else (kitB "NoneType" "int").map fun b => T.val (.bool b)) = _
 rw [a26]
 rfl
theorem a3B : kitB "bool" "int" = some true := by decide +kernel
@[simp] theorem b5Y {b : Bool} : H7 "int" (.bool b) = some (.val (.bool true)) := by
 show (if n0 (.bool b) = true then none else (kitB "bool" "int").map fun b => T.val (.bool b)) = _
 rw [a3B]
 rfl
theorem a3z : kitB "int" "int" = some true := by decide +kernel
@[simp] theorem b4w {i : Int} : H7 "int" (.int i) = some (.val (.bool true)) := by
 show (if n0 (.int i) = true then none else (kitB "int" "int").map fun b => T.val (.bool b)) = _
 rw [a3z]
 rfl
theorem a5H : kitB "str" "int" = some false := by decide +kernel
@[simp] theorem b5D {x : Str} : H7 "int" (.str x) = some (.val (.bool false)) := by
 show (if n0 (.str x) = true then none else (kitB "str" "int").map fun b => T.val (.bool b)) = _
 rw [a5H]
 rfl
theorem a3p : kitB "list" "int" = some false := by decide +kernel
@[simp] theorem b5I {xs : List D} : H7 "int" (.list xs) = some (.val (.bool false)) := by
 show (if n0 (.list xs) = true then none else (kitB "list" "int").map fun b => T.val (.bool b)) = _
 rw [a3p]
 rfl
theorem a1e : kitB "tuple" "int" = some false := by decide +kernel
@[simp] theorem b5v {xs : List D} : H7 "int" (.tuple xs) = some (.val (.bool false)) := by
 show (if n0 (.tuple xs) = true then none else (kitB "tuple" "int").map fun b => T.val (.bool b)) = _
 rw [a1e]
 rfl
theorem a1g : kitB "NoneType" "bool" = some false := by decide +kernel
@[simp] theorem b4S  : H7 "bool" (.none) = some (.val (.bool false)) := by
 show (if n0 (.none) = true then none else (kitB "NoneType" "bool").map fun b => T.val (.bool b)) = _
 rw [a1g]
 rfl
theorem a1E : kitB "bool" "bool" = some true := by decide +kernel
@[simp] theorem b4U {b : Bool} : H7 "bool" (.bool b) = some (.val (.bool true)) := by
 show (if n0 (.bool b) = true then none else (kitB "bool" "bool").map fun b => T.val (.bool b)) = _
 rw [a1E]
 rfl
theorem a1C : kitB "int" "bool" = some false := by decide +kernel
@[simp] theorem b2N {i : Int} : H7 "bool" (.int i) = some (.val (.bool false)) := by
 show (if n0 (.int i) = true then none else (kitB "int" "bool").map fun b => T.val (.bool b)) = _
 rw [a1C]
 rfl
theorem a3t : kitB "str" "bool" = some false := by decide +kernel
@[simp] theorem b4o {x : Str} : H7 "bool" (.str x) = some (.val (.bool false)) := by
 show (if n0 (.str x) = true then none else (kitB "str" "bool").map fun b => T.val (.bool b)) = _
 rw [a3t]
 rfl
theorem a12 : kitB "list" "bool" = some false := by decide +kernel
@[simp] theorem b4E {xs : List D} : H7 "bool" (.list xs) = some (.val (.bool false)) := by
 show (if n0 (.list xs) = true then none else (kitB "list" "bool").map fun b => T.val (.bool b)) = _
 rw [a12]
 rfl
theorem a0y : kitB "tuple" "bool" = some false := by decide +kernel
@[simp] theorem b4m {xs : List D} : H7 "bool" (.tuple xs) = some (.val (.bool false)) := by
 show (if n0 (.tuple xs) = true then none else (kitB "tuple" "bool").map fun b => T.val (.bool b)) = _
 rw [a0y]
 rfl
theorem a2l : kitB "NoneType" "str" = some false := by decide +kernel
@[simp] theorem b5q  : H7 "str" (.none) = some (.val (.bool false)) := by
 show (if n0 (.none) = true then none else (kitB "NoneType" "str").map fun b => T.val (.bool b)) = _
 rw [a2l]
 rfl
theorem a2n : kitB "bool" "str" = some false := by decide +kernel
@[simp] theorem b5R {b : Bool} : H7 "str" (.bool b) = some (.val (.bool false)) := by
 show (if n0 (.bool b) = true then none else (kitB "bool" "str").map fun b => T.val (.bool b)) = _
 rw [a2n]
 rfl
theorem a5l : kitB "int" "str" = some false := by decide +kernel
@[simp] theorem b4n {i : Int} : H7 "str" (.int i) = some (.val (.bool false)) := by
 show (if n0 (.int i) = true then none else (kitB "int" "str").map fun b => T.val (.bool b)) = _
 rw [a5l]
 rfl
theorem a5B : kitB "str" "str" = some true := by decide +kernel
@[simp] theorem b5F {x : Str} : H7 "str" (.str x) = some (.val (.bool true)) := by
 show (if n0 (.str x) = true then none else (kitB "str" "str").map fun b => T.val (.bool b)) = _
 rw [a5B]
 rfl
theorem a2U : kitB "list" "str" = some false := by decide +kernel
@[simp] theorem b5U {xs : List D} : H7 "str" (.list xs) = some (.val (.bool false)) := by
 show (if n0 (.list xs) = true then none else (kitB "list" "str").map fun b => T.val (.bool b)) = _
 rw [a2U]
 rfl
theorem a1Z : kitB "tuple" "str" = some false := by decide +kernel
@[simp] theorem b5o {xs : List D} : H7 "str" (.tuple xs) = some (.val (.bool false)) := by
 show (if n0 (.tuple xs) = true then none else (kitB "tuple" "str").map fun b => T.val (.bool b)) = _
 rw [a1Z]
 rfl
theorem a0x : kitB "NoneType" "tuple" = some false := by decide +kernel
@[simp] theorem b26  : H7 "tuple" (.none) = some (.val (.bool false)) := by
 show (if n0 (.none) = true then none else (kitB "NoneType" "tuple").map fun b => T.val (.bool b)) = _
 rw [a0x]
 rfl
theorem a0z : kitB "bool" "tuple" = some false := by decide +kernel
@[simp] theorem b3l {b : Bool} : H7 "tuple" (.bool b) = some (.val (.bool false)) := by
 show (if n0 (.bool b) = true then none else (kitB "bool" "tuple").map fun b => T.val (.bool b)) = _
 rw [a0z]
 rfl
theorem a1F : kitB "int" "tuple" = some false := by decide +kernel
@[simp] theorem b2e {i : Int} : H7 "tuple" (.int i) = some (.val (.bool false)) := by
 show (if n0 (.int i) = true then none else (kitB "int" "tuple").map fun b => T.val (.bool b)) = _
 rw [a1F]
 rfl
theorem a07 : kitB "str" "tuple" = some false := by decide +kernel
@[simp] theorem b3d {x : Str} : H7 "tuple" (.str x) = some (.val (.bool false)) := by
 show (if n0 (.str x) = true then none else (kitB "str" "tuple").map fun b => T.val (.bool b)) = _
 rw [a07]
 rfl
theorem a0B : kitB "list" "tuple" = some false := by decide +kernel
@[simp] theorem b24 {xs : List D} : H7 "tuple" (.list xs) = some (.val (.bool false)) := by
 show (if n0 (.list xs) = true then none else (kitB "list" "tuple").map fun b => T.val (.bool b)) = _
 rw [a0B]
 rfl
theorem a0m : kitB "tuple" "tuple" = some true := by decide +kernel
@[simp] theorem b3u {xs : List D} : H7 "tuple" (.tuple xs) = some (.val (.bool true)) := by
 show (if n0 (.tuple xs) = true then none else (kitB "tuple" "tuple").map fun b => T.val (.bool b)) = _
 rw [a0m]
 rfl
theorem a08 : kitB "NoneType" "list" = some false := by decide +kernel
@[simp] theorem b5i  : H7 "list" (.none) = some (.val (.bool false)) := by
 show (if n0 (.none) = true then none else (kitB "NoneType" "list").map fun b => T.val (.bool b)) = _
 rw [a08]
 rfl
theorem a1z : kitB "bool" "list" = some false := by decide +kernel
@[simp] theorem b4i {b : Bool} : H7 "list" (.bool b) = some (.val (.bool false)) := by
 show (if n0 (.bool b) = true then none else (kitB "bool" "list").map fun b => T.val (.bool b)) = _
 rw [a1z]
 rfl
theorem a3q : kitB "int" "list" = some false := by decide +kernel
@[simp] theorem b3t {i : Int} : H7 "list" (.int i) = some (.val (.bool false)) := by
 show (if n0 (.int i) = true then none else (kitB "int" "list").map fun b => T.val (.bool b)) = _
 rw [a3q]
 rfl
theorem a3n : kitB "str" "list" = some false := by decide +kernel
@[simp] theorem b37 {x : Str} : H7 "list" (.str x) = some (.val (.bool false)) := by
 show (if n0 (.str x) = true then none else (kitB "str" "list").map fun b => T.val (.bool b)) = _
 rw [a3n]
 rfl
theorem a1P : kitB "list" "list" = some true := by decide +kernel
@[simp] theorem b4F {xs : List D} : H7 "list" (.list xs) = some (.val (.bool true)) := by
 show (if n0 (.list xs) = true then none else (kitB "list" "list").map fun b => T.val (.bool b)) = _
 rw [a1P]
 rfl
theorem a0F : kitB "tuple" "list" = some false := by decide +kernel
@[simp] theorem b4K {xs : List D} : H7 "list" (.tuple xs) = some (.val (.bool false)) := by
 show (if n0 (.tuple xs) = true then none else (kitB "tuple" "list").map fun b => T.val (.bool b)) = _
 rw [a0F]
 rfl

@[simp] theorem c0u : I7 .none = true := rfl
@[simp] theorem c0m {b : Bool} : I7 (.bool b) = true := rfl
@[simp] theorem c00 {b : Int} : I7 (.int b) = true := rfl
@[simp] theorem c0l {b : Str} : I7 (.str b) = true := rfl
@[simp] theorem c0P {a b : Bool} : gEq false (.bool a) (.bool b) = some (.val (.bool (a == b))) := rfl
@[simp] theorem c0o {a b : Bool} : gEq true (.bool a) (.bool b) = some (.val (.bool (!(a == b)))) := rfl
theorem b8S {neg : Bool} {a b : D} (h1 : I7 a = true) (h2 : I7 b = true) : gEq neg a b = some (.val (.bool (if neg then !PyData.eqv a b else PyData.eqv a b))) := by
 unfold gEq
 rw [h1, h2]
 rfl
@[simp] theorem c0I {a b : Str} : gEq false (.str a) (.str b) = some (.val (.bool (decide (a = b)))) := by
 show some (T.val (.bool (PyData.eqv (.str a) (.str b)))) = _
 simp [PyData.eqv]
 try rfl
@[simp] theorem c0s {a b : Str} : gEq true (.str a) (.str b) = some (.val (.bool (decide (a ≠ b)))) := by
 show some (T.val (.bool (!PyData.eqv (.str a) (.str b)))) = _
 simp [PyData.eqv]
 try rfl
@[simp] theorem c1y : PyData.eqv .none .none = true := rfl
@[simp] theorem c1g {a b : Int} : PyData.eqv (.int a) (.int b) = decide (a = b) := by
 simp [PyData.eqv]
 try rfl
@[simp] theorem c1J {a b : Str} : PyData.eqv (.str a) (.str b) = decide (a = b) := by
 simp [PyData.eqv]
 try rfl
@[simp] theorem c1K {a b : Bool} : PyData.eqv (.bool a) (.bool b) = (a == b) := rfl
@[simp] theorem c1z {a b : List D} : PyData.eqv (.tuple a) (.tuple b) = PyData.eqvAll a b := rfl
@[simp] theorem c1m {a b : List D} : PyData.eqv (.list a) (.list b) = PyData.eqvAll a b := rfl
@[simp] theorem b5w : PyData.eqvAll [] [] = true := rfl
@[simp] theorem b49 {x y : D} {a b : List D} : PyData.eqvAll (x :: a) (y :: b) = (PyData.eqv x y && PyData.eqvAll a b) := rfl
@[simp] theorem b7D {y : D} {b : List D} : PyData.eqvAll [] (y :: b) = false := rfl
@[simp] theorem b51 {y : D} {b : List D} : PyData.eqvAll (y :: b) [] = false := rfl
@[simp] theorem c0c {q : Bool} {ρ : En} {S : Sto} : b5j q ρ S = .ok (.ownd q []) S := rfl
@[simp] theorem c08 {i : Int} {d : D} {r : List (D × D)} : unD ((.int i, d) :: r) = (false, (.int i, d) :: r) := rfl
@[simp] theorem c1G {i : Str} {d : D} {r : List (D × D)} : unD ((.str i, d) :: r) = (false, (.str i, d) :: r) := rfl
@[simp] theorem b8K : unD [] = (false, []) := rfl
@[simp] theorem b7O {q : Bool} {kvs : List (D × D)} {S : Sto} {k : D → Sto → R T} : R.d (.ok (.ownd q kvs) S) k = k (.dict (mkD q kvs)) S := rfl
@[simp] theorem b5p {q : Bool} {kvs : List (D × D)} : asD (.ownd q kvs) = some (.dict (mkD q kvs)) := rfl
@[simp] theorem b5T {q : Bool} {kvs : List (D × D)} : asA (.ownd q kvs) = .val (.dict (mkD q kvs)) := rfl
@[simp] theorem c09 {kvs : List (D × D)} : mkD false kvs = kvs := rfl
@[simp] theorem c19 {i : Int} : keyOf (.int i) = some (.inl (.inl i)) := rfl
@[simp] theorem c1j {x : Str} : keyOf (.str x) = some (.inl (.inr x)) := rfl
@[simp] theorem c0g {p : Prop} [Decidable p] {c : Bool} {S : Sto} : (if p then R.ok (T.val (.bool c)) S else R.ok (T.val (.bool false)) S) = R.ok (T.val (.bool (decide p && c))) S := by
 by_cases h : p
 ·rw [if_pos h, decide_eq_true h, Bool.true_and]
 ·rw [if_neg h, decide_eq_false h, Bool.false_and]
@[simp] theorem b9E : n0 .none = false := rfl
@[simp] theorem b8J {b : Bool} : n0 (.bool b) = false := rfl
@[simp] theorem b82 {b : Int} : n0 (.int b) = false := rfl
@[simp] theorem b8C {b : Str} : n0 (.str b) = false := rfl
@[simp] theorem b8P {b : List D} : n0 (.list b) = false := rfl
@[simp] theorem b8R {b : List D} : n0 (.tuple b) = false := rfl
@[simp] theorem c0Z : M2 .none = true := rfl
@[simp] theorem c0L {b : Bool} : M2 (.bool b) = true := rfl
@[simp] theorem c0w {b : Int} : M2 (.int b) = true := rfl
@[simp] theorem b99 {b : Str} : M2 (.str b) = true := rfl
theorem b65 {neg : Bool} {a : D} {ds : List D} (h1 : I7 a = true) (h2 : I7 (.list ds) = true) : gIn neg a (.list ds) = some (.val (.bool (if neg then !(ds.any fun d => PyData.eqv d a) else ds.any fun d => PyData.eqv d a))) := by
 have h : ((M2 a && ds.all M2) || (I7 a && I7 (.list ds))) = true := by rw [h1, h2]; simp
 cases a <;> first | (unfold gIn; simp only [h, if_true]; done) | cases h1
theorem Y4 {xs ys : List D} (h : xs.length + ys.length ≤ sizeLine) : B2 (.list xs) (.list ys) = some (.own (xs ++ ys)) := by
 show (if xs.length + ys.length ≤ sizeLine then _ else _) = _
 rw [if_pos h]
@[simp] theorem b89 {b c : Bool} {S : Sto} : (if b = true then R.ok (T.val (.bool c)) S else R.ok (T.val (.bool b)) S) = R.ok (T.val (.bool (b && c))) S := by cases b <;> rfl
@[simp] theorem c0U {b c : Bool} {S : Sto} : (if b = true then R.ok (T.val (.bool b)) S else R.ok (T.val (.bool c)) S) = R.ok (T.val (.bool (b || c))) S := by cases b <;> rfl
@[simp] theorem b8D {p : Prop} [Decidable p] {c : Bool} {S : Sto} : (if p then R.ok (T.val (.bool c)) S else R.ok (T.val (.bool (decide p))) S) = R.ok (T.val (.bool (decide p && c))) S := by
 by_cases h : p <;> simp [h]
@[simp] theorem c0C {p : Prop} [Decidable p] {c : Bool} {S : Sto} : (if p then R.ok (T.val (.bool (decide p))) S else R.ok (T.val (.bool c)) S) = R.ok (T.val (.bool (decide p || c))) S := by
 by_cases h : p <;> simp [h]
@[simp] theorem c0D {n : Nat} {bs : BTs} {ds : List D} {ρ : En} : a0S n bs (.tuple ds) ρ = if ds.length = n then bs ds ρ else none := rfl
@[simp] theorem b8U {n : Nat} {bs : BTs} {ds : List D} {ρ : En} : a0S n bs (.list ds) ρ = if ds.length = n then bs ds ρ else none := rfl
@[simp] theorem b9l {b : BT1} {bs : BTs} {d : D} {r : List D} {ρ : En} : o8 b bs (d :: r) ρ = (b d ρ).bind (bs r) := rfl
@[simp] theorem c0k {ρ : En} : a1K [] ρ = some ρ := rfl
@[simp] theorem c0V {b : BT1} {f : SE} {ρ : En} {S : Sto} : a2D b f ρ S = sE f (fun t ρ S => match asD t with
 | some d => (match b d ρ with | some ρ' => .nx ρ' S | none => .bad)
 | none => .bad) ρ S := rfl
@[simp] theorem c2r {α : Type} {x : α} {xs : List α} : atI (x :: xs) 0 = some x := u9 (i := 0) rfl
@[simp] theorem c2k {α : Type} {x y : α} {xs : List α} : atI (x :: y :: xs) 1 = some y := u9 (i := 1) rfl
@[simp] theorem c2t {α : Type} {x y z : α} {xs : List α} : atI (x :: y :: z :: xs) 2 = some z := u9 (i := 2) rfl
@[simp] theorem c2g {α : Type} {x y z w : α} {xs : List α} : atI (x :: y :: z :: w :: xs) 3 = some w := u9 (i := 3) rfl
@[simp] theorem c2s {α : Type} {x y z w u : α} {xs : List α} : atI (x :: y :: z :: w :: u :: xs) 4 = some u := u9 (i := 4) rfl
@[simp] theorem b8p {p q : Prop} [Decidable p] [Decidable q] {c : Bool} {S : Sto} : (if p ∧ q then R.ok (T.val (.bool c)) S else R.ok (T.val (.bool (decide p && decide q))) S) = R.ok (T.val (.bool (decide p && (decide q && c)))) S := by
 by_cases h : p <;> by_cases h2 : q <;> simp [h, h2]
@[simp] theorem b8F {p q : Prop} [Decidable p] [Decidable q] {c : Bool} {S : Sto} : (if p ∨ q then R.ok (T.val (.bool (decide p || decide q))) S else R.ok (T.val (.bool c)) S) = R.ok (T.val (.bool (decide p || (decide q || c)))) S := by
 by_cases h : p <;> by_cases h2 : q <;> simp [h, h2]
theorem a7d {b : SB} {g1 g2 : SS} {ρ : En} {S S1 : Sto} {r : Fl} (h : b ρ S = .ok true S1) (h1 : g1 ρ S1 = r) : sIf b g1 g2 ρ S = r := by rw [c0y, h]; exact h1
theorem a2z {b : SB} {g1 g2 : SS} {ρ : En} {S S1 : Sto} {r : Fl} (h : b ρ S = .ok false S1) (h1 : g2 ρ S1 = r) : sIf b g1 g2 ρ S = r := by rw [c0y, h]; exact h1
@[simp] theorem b9r {x : Str} {ρ : En} {S : Sto} : a0G x ρ S = .ex ⟨x, none⟩ ρ S := rfl
end BV
namespace BV
open PySem L2

theorem a09 {α : Type} (u : α → D) (h1 : ∀ a, E2 (u a) = true) (h2 : ∀ a, (u a).depth ≤ 60) (xs : List α) : I7 (.list (xs.map u)) = true ∧ I7 (.tuple (xs.map u)) = true := by
 have a : w9 (xs.map u) = true := a7c fun x hx => by obtain ⟨y, _, rfl⟩ := List.mem_map.mp hx; exact h1 y
 have b : PyData.depthAll (xs.map u) ≤ 60 := P8 fun x hx => by obtain ⟨y, _, rfl⟩ := List.mem_map.mp hx; exact h2 y
 constructor
 ·unfold I7
  rw [show E2 (.list (xs.map u)) = true from a, Bool.true_and]
  refine decide_eq_true ?_
  simp only [PyData.depth]
  omega
 ·unfold I7
  rw [show E2 (.tuple (xs.map u)) = true from a, Bool.true_and]
  refine decide_eq_true ?_
  simp only [PyData.depth]
  omega
theorem R4 (xs : List Int) : I7 (.list (xs.map PyData.int)) = true := (a09 PyData.int (fun _ => rfl) (fun _ => by simp [PyData.depth]) xs).1
@[simp] theorem b1w : I7 (.list []) = true := rfl
@[simp] theorem b7m : I7 (.tuple []) = true := rfl
@[simp] theorem c1L : gEq false (.list []) (.list []) = some (.val (.bool true)) := rfl
@[simp] theorem c1I : gEq true (.list []) (.list []) = some (.val (.bool false)) := rfl
end BV
namespace BV
open PySem L2
def K0 : SS := a9a 1 (fun a b => a + b) (b7 3) (cC (.int 1))
def N2 : SS := j9 (s8 1 (d9 C5 (n9 (d3 (cC (.int 0)) m6)) (d9 B2 (cC (.int 30)) (cC (.int 2)))))
  (j9 (a0Y (a0X (m7 0)) (a0S 2 (o8 (f9 2) (o8 (f9 3) a1K))) K0)
  (U8 1))
def w5 : Fn := fnL 4 N2
def a1w : SS := j9 (s8 6 (cB1 a4d (i8 (cC (.int 0)) (i8 (d9 gSub (cC (.int 0)) (b7 3)) A9))))
  (j9 (s8 7 (d9 gSub (d9 C5 (b7 0) (b7 4)) (b7 6)))
  (j9 (s8 8 (d9 gSub (d9 gIx (b7 1) (b7 2)) (b7 5)))
  (j9 (sIf (cB (d9 gLt (b7 7) (cC (.int 0)))) (O3 (cC .none)) t4)
  (j9 (sIf (cB (d9 gGt (b7 8) (b7 7))) (O3 (Y1 (d3 (d9 gSub (b7 7) (b7 8)) (d3 (d9 B2 (b7 6) (b7 5)) m6)))) t4)
  (O3 (Y1 (d3 (cB1 a3k (i8 (d9 gSub (b7 7) (b7 8)) (i8 (d9 gIx (b7 1) (d9 B2 (b7 2) (cC (.int 1)))) A9))) (d3 (d9 B2 (b7 6) (b7 5)) m6))))))))
def G1 : Fn := fnL 9 a1w
def O9 : SS := j9 (s8 4 (d9 B2 (d9 B2 (cB1 a4d (i8 (cC (.int 0)) (i8 (d9 gSub (cC (.int 0)) (b7 3)) A9))) (d9 gIx (b7 1) (b7 2))) (d9 gIx (b7 1) (d9 B2 (b7 2) (cC (.int 1))))))
  (O3 (d9 b2M (d9 gSub (d9 B2 (b7 4) (b7 0)) (cC (.int 1))) (b7 0)))
def w7 : Fn := fnL 5 O9
def R0 : SS := j9 (s8 12 (t9 G1 (d3 (m7 2) (d3 (m7 1) (d3 (m7 5) (d3 (m7 9) (d3 (m7 10) (d3 (m7 11) m6))))))))
  (sIf (cB (cUn V0 (b7 12))) (j9 (s8 13 (Y1 (d3 (d9 B2 (b7 8) (b7 10)) (d3 (d9 gIx (b7 12) (cC (.int 0))) m6))))
  (j9 (s8 14 (d9 B2 (d9 gIx (d9 a9t (d9 gIx (b7 4) (cUn a1v (cC (.int 1)))) (b7 7)) (cC (.int 0))) (d9 gIx (b7 12) (cC (.int 1)))))
  (sIf (bOr (cB (d9 (gIn true) (b7 13) (b7 6))) (cB (d9 gLt (b7 14) (d9 gIx (d9 a9t (b7 6) (b7 13)) (cC (.int 0)))))) (b7L 6 (b7 13) (Y1 (d3 (m7 14) (d3 (m7 7) (d3 (m7 10) (d3 (m7 11) m6)))))) t4))) t4)
def Q3 : SS := a0Y (a18 Q4 (i8 (d9 B2 (cB1 a3k (i8 (d9 gIx (b7 1) (b7 5)) (i8 (cB1 a4d (i8 (cC (.int 0)) (i8 (b7 9) A9))) A9))) (cC (.int 1))) A9)) (f9 11) R0
def Q8 : SS := j9 (a2D (a0S 2 (o8 (f9 8) (o8 (f9 9) a1K))) (m7 7))
  (a0Y (a18 Q4 (i8 (d9 B2 (cB1 a3k (i8 (d9 gSub (b7 3) (b7 8)) (i8 (t9 w7 (d3 (m7 2) (d3 (m7 1) (d3 (m7 5) (d3 (m7 9) m6))))) A9))) (cC (.int 1))) A9)) (f9 10) Q3)
def R6 : SS := j9 (s8 6 (b5j true))
  (j9 (a0Y (a0X (cB1 X2 (i8 (d9 gIx (b7 4) (cUn a1v (cC (.int 1)))) A9))) (f9 7) Q8)
  (sFz 6 (sLM 4 E4 (d3 (m7 6) m6) a0s)))
def a1G : SS := j9 (a2D (a0S 2 (o8 (f9 2) (o8 (f9 3) a1K))) (m7 0))
  (j9 (s8 4 (n9 (d3 (a1M (Y1 (d3 (cC (.int 0)) (d3 (cC (.int 0)) m6))) (Y1 (d3 (cC (.int 0)) (d3 (cC .none) (d3 (cC (.int 0)) (d3 (cC (.int 0)) m6)))))) m6)))
  (j9 (a0Y (a18 a0l (i8 (cC (.int 1)) (i8 (d9 B2 (cC (.int 30)) (cC (.int 1))) A9))) (f9 5) R6)
  (U8 4)))
def C9 : Fn := fnL 15 a1G
def B1 : SS := j9 (a2D (a0S 4 (o8 (f9 7) (o8 (f9 8) (o8 (f9 9) (o8 (f9 10) a1K))))) (d9 a9t (d9 gIx (b7 2) (b7 6)) (b7 4)))
  (j9 (sLM 5 E4 (d3 (Y1 (d3 (m7 9) (d3 (m7 10) m6))) m6) a0s)
  (s8 4 (m7 8)))
def L9 : SS := j9 (s8 2 (t9 C9 (d3 (m7 0) (d3 (m7 1) m6))))
  (j9 (s8 3 (cLc (a5Z (d9 gIx (b7 2) (cUn a1v (cC (.int 1))))) (f9 4) (cB (d9 gGe (d9 gIx (b7 4) (cC (.int 1))) (cC (.int 0)))) (Y1 (d3 (d9 gIx (d9 a9t (d9 gIx (b7 2) (cUn a1v (cC (.int 1)))) (b7 4)) (cC (.int 0))) (d3 (m7 4) m6))) [4]))
  (j9 (sIf (cB (d9 (gEq false) (b7 3) (n9 m6))) (a0G "NoLayout") t4)
  (j9 (s8 4 (d9 gIx (cB1 a7S (i8 (b7 3) A9)) (cC (.int 1))))
  (j9 (s8 5 (n9 m6))
  (j9 (a0Y (a18 b0v (i8 (cC (.int 30)) (i8 (cUn a1v (cC (.int 1))) (i8 (cUn a1v (cC (.int 1))) A9)))) (f9 6) B1)
  (O3 (cUn b74 (b7 5))))))))
def r8 : Fn := fnL 11 L9
def B3 : SS := j9 (a2D (a0S 2 (o8 (f9 6) (o8 (f9 7) a1K))) (d9 gIx (b7 2) (b7 5)))
  (j9 (s8 8 (cLc (a0X (b7 1)) (a0S 2 (o8 (f9 10) (o8 (f9 11) a1K))) (cB (d9 (gEq false) (b7 11) (b7 5))) (m7 10) [10, 11]))
  (j9 (a4z 3 (d9 gSub (b7 5) (cC (.int 1))) u8 (i8 (cLc (a0X (cSl (b7 8) P1 (V9 (b7 7)))) (f9 10) a0w (Y1 (d3 (m7 10) (d3 (cC (.int 1)) m6))) [10]) A9))
  (j9 (a4z 3 (b7 5) u8 (i8 (cLc (a0X (b7 4)) (f9 10) a0w (Y1 (d3 (m7 10) (d3 (cUn a1v (cC (.int 1))) m6))) [10]) A9))
  (j9 (s8 9 (d9 gSub (d9 C5 (b7 0) (b7 6)) (cB1 a2g (i8 (b7 4) A9))))
  (j9 (a4z 3 (b7 5) u8 (i8 (cLc (a0X (cSl (b7 8) (V9 (b7 7)) (V9 (d9 B2 (b7 7) (b7 9))))) (f9 10) a0w (Y1 (d3 (m7 10) (d3 (cC (.int 0)) m6))) [10]) A9))
  (s8 4 (cSl (b7 8) (V9 (d9 B2 (b7 7) (b7 9))) P1)))))))
def H9 : SS := j9 (s8 3 (b1n (b6O (a0X (b7 2)) (a0S 2 (o8 (f9 6) (o8 (f9 7) a1K))) a0w (n9 m6) [6, 7])))
  (j9 (s8 4 (n9 m6))
  (j9 (a0Y (a18 a0l (i8 (cC (.int 1)) (i8 (d9 B2 (cC (.int 30)) (cC (.int 1))) A9))) (f9 5) B3)
  (sFz 3 (U8 3))))
def q9 : Fn := fnL 12 H9
def B9 : SS := j9 (s8 5 (cSl (b7 1) (V9 (d9 C5 (b7 4) (b7 0))) (V9 (d9 C5 (d9 B2 (b7 4) (cC (.int 1))) (b7 0)))))
  (sLM 3 E4 (d3 (d9 B2 (b7 5) (d9 C5 (n9 (d3 (cC .none) m6)) (d9 gSub (b7 0) (cB1 a2g (i8 (b7 5) A9))))) m6) a0s)
def D3 : SS := j9 (s8 3 (n9 m6))
  (j9 (a0Y (a18 Q4 (i8 (b7 2) A9)) (f9 4) B9)
  (U8 3))
def n6 : Fn := fnL 6 D3
def s9 : SS := j9 (s8 4 (cB1 a8Z (i8 (b7 3) A9)))
  (j9 (sIf (b1e (b6l (cT (b7 2))) (cB (d9 (gIn false) (cC .none) (b7 4)))) (j9 (b7L 4 (b1y "list" a15 (b7 4) (i8 (cC .none) A9)) (Y1 (d3 (cC (.str " ")) (d3 (cC (.int 0)) m6))))
  (s8 2 (cC (.bool true)))) t4)
  (sLM 1 E4 (d3 (cB1 a0a (i8 (b7 4) A9)) m6) a0s))
def K6 : SS := j9 (s8 1 (n9 m6))
  (j9 (s8 2 (cC (.bool false)))
  (j9 (a0Y (a0X (m7 0)) (f9 3) s9)
  (O3 (cB1 a0a (i8 (b7 1) A9)))))
def v4 : Fn := fnL 5 K6
def M0 : SS := j9 (s8 9 (d9 gIx (d9 gIx (b7 4) (b7 8)) (cC (.int 0))))
  (j9 (b3q 6 u8 (i8 (d9 C5 (n9 (d3 (m7 8) m6)) (b7 9)) A9) a0s)
  (b3q 7 u8 (i8 (t9 n6 (d3 (m7 2) (d3 (d9 gIx (b7 5) (b7 8)) (d3 (m7 9) m6)))) A9) a0s))
def K5 : SS := j9 (a2D (a0S 2 (o8 (f9 2) (o8 (f9 3) a1K))) (m7 0))
  (j9 (sIf (cB (d9 gGe (cB1 a2g (i8 (b7 1) A9)) (d9 C5 (b7 2) (b7 3)))) (a0G "NoLayout") t4)
  (j9 (s8 4 (t9 r8 (d3 (m7 0) (d3 (t9 w5 (d3 (m7 1) m6)) m6))))
  (sFz 4 (j9 (s8 5 (t9 q9 (d3 (m7 2) (d3 (m7 1) (d3 (m7 4) m6)))))
  (j9 (s8 6 (n9 m6))
  (j9 (s8 7 (n9 m6))
  (j9 (a0Y (a18 a0l (i8 (cC (.int 1)) (i8 (d9 B2 (cC (.int 30)) (cC (.int 1))) A9))) (f9 8) M0)
  (j9 (s8 10 (d9 gSub (b7 3) (cB1 a2g (i8 (b7 7) A9))))
  (j9 (b3q 7 u8 (i8 (cLc (a18 Q4 (i8 (b7 10) A9)) (f9 11) a0w (d9 C5 (n9 (d3 (cC .none) m6)) (b7 2)) [11]) A9) a0s)
  (O3 (Y1 (d3 (cB1 a0a (i8 (d9 B2 (b7 6) (d9 C5 (n9 (d3 (cC (.int 1)) m6)) (b7 10))) A9)) (d3 (b6c (t9 v4 (d3 (m7 7) m6))) m6)))))))))))))
def m9 : Fn := fnL 12 K5
end BV
namespace BV
open PySem L2

theorem a3f {d : D} (h : E2 d = true) : n0 d = false := by cases d <;> first | rfl | cases h
theorem N4 : ∀ {ds : List D}, w9 ds = true → ∀ d ∈ ds, E2 d = true
 | d :: ds, h, e, he => by
  rw [w9, Bool.and_eq_true] at h
  rcases List.mem_cons.mp he with q | q
  ·rw [q]; exact h.1
  ·exact N4 h.2 e q
end BV
namespace BV
open PySem L2

end BV
namespace BV
open PySem L2

end BV
namespace BV
open PySem L2

def kvT (l : List (List Int × D)) : List (D × D) := l.map fun p => (.tuple (p.1.map PyData.int), p.2)
def b5d (l : List (List Int × D)) (k : List Int) : Option D := (l.find? fun p => decide (p.1 = k)).map (·.2)
def b53 (l : List (List Int × D)) (k : List Int) (v : D) : List (List Int × D) := if l.any (fun p => decide (p.1 = k)) then l.map (fun p => if p.1 = k then (p.1, v) else p) else l ++ [(k, v)]
theorem b0V (k : List Int) : a2h (F9 k) = true := by
 show (a2X (k.map Sum.inl)).isSome = true
 induction k with
 | nil => rfl
 | cons i k ih =>
  show ((a2X (k.map Sum.inl)).map _).isSome = true
  rw [Option.isSome_map]
  exact ih
theorem a2o (a b : List Int) : decide (keyOf (.tuple (a.map PyData.int)) = some (F9 b)) = decide (a = b) := by
 rw [w4, Bool.eq_iff_iff, decide_eq_true_eq, decide_eq_true_eq]
 exact ⟨fun h => J7 _ _ (Option.some.inj h), fun h => by rw [h]⟩
theorem b2q (l : List (List Int × D)) (k : List Int) : a9m (kvT l) (F9 k) = b5d l k := by
 unfold a9m b5d kvT
 rw [List.find?_map, Option.map_map]
 have : (fun p : D × D => decide (keyOf p.1 = some (F9 k))) ∘ (fun p : List Int × D => ((.tuple (p.1.map PyData.int), p.2) : D × D)) = fun p => decide (p.1 = k) := by
  funext p
  exact a2o p.1 k
 rw [this]
 rfl
theorem b2y (l : List (List Int × D)) (k : List Int) (v : D) : b5E (kvT l) (F9 k) (.tuple (k.map PyData.int)) v = kvT (b53 l k v) := by
 unfold b5E b53
 have : ((kvT l).any fun p => decide (keyOf p.1 = some (F9 k))) = l.any fun p => decide (p.1 = k) := by
  unfold kvT
  rw [List.any_map]
  congr 1
  funext p
  exact a2o p.1 k
 rw [this]
 split
 ·unfold kvT
  rw [List.map_map, List.map_map]
  refine List.map_congr_left fun p _ => ?_
  simp only [Function.comp]
  by_cases h : p.1 = k
  ·rw [if_pos h, if_pos (by rw [w4, h])]
  ·rw [if_neg h, if_neg (by rw [w4]; exact fun z => h (J7 _ _ (Option.some.inj z)))]
 ·unfold kvT
  rw [List.map_append]
  rfl
theorem a7z (l : List (List Int × D)) (k : List Int) : a7b (mkD true (kvT l)) (.tuple (k.map PyData.int)) = some (b5d l k) := by
 unfold a7b
 rw [w4]
 show (if (b12 true (F9 k) || (true && a2h (F9 k))) = true then some (a9m (kvT l) (F9 k)) else none) = _
 rw [if_pos (by rw [b0V]; cases k <;> rfl), b2q]
theorem b1B {l : List (List Int × D)} {k : List Int} {v : D} (h : l.length < sizeLine) : a37 true (kvT l) (.tuple (k.map PyData.int)) v = some (kvT (b53 l k v)) := by
 unfold a37
 rw [w4]
 show (if (b12 true (F9 k) || (true && a2h (F9 k))) = true ∧ (kvT l).length < sizeLine then some (b5E (kvT l) (F9 k) (.tuple (k.map PyData.int)) v) else none) = _
 rw [if_pos ⟨by rw [b0V]; cases k <;> rfl, by unfold kvT; rw [List.length_map]; exact h⟩, b2y]
end BV
namespace BV
open PySem L2

end BV
namespace BV
open PySem L2
open PySem.Spec PyProof.Rows

structure Th (d : D) : Prop where
 nd : E2 d = true
 dp : d.depth ≤ 60
 cl : PyData.canLay0 d = true
theorem Th.eq {d : D} (h : Th d) : I7 d = true := by
 unfold I7
 rw [h.nd, Bool.true_and]
 exact decide_eq_true (Nat.le_trans h.dp (by decide))
theorem Th.dct {d : D} (h : Th d) : n0 d = false := a3f h.nd
theorem Th.self {d : D} (h : Th d) : gEq false d d = some (.val (.bool true)) := a9D h.eq h.cl
theorem Y7 : ∀ {ds : List D} {d : D}, d ∈ ds → d.depth ≤ PyData.depthAll ds
 | e :: ds, d, h => by
  simp only [PyData.depthAll]
  rcases List.mem_cons.mp h with q | q
  ·rw [q]; omega
  ·have := Y7 q; omega
theorem a5Y : ∀ {ds : List D} {d : D}, PyData.canLayAll0 ds = true → d ∈ ds → PyData.canLay0 d = true
 | e :: ds, d, hc, h => by
  simp only [PyData.canLayAll0, Bool.and_eq_true] at hc
  rcases List.mem_cons.mp h with q | q
  ·rw [q]; exact hc.1
  ·exact a5Y hc.2 q
theorem Th.t {ds : List D} (h : Th (.tuple ds)) : ∀ d ∈ ds, Th d := fun d hd => by
 refine ⟨N4 h.nd d hd, ?_, a5Y (ds := ds) (by have := h.cl; simpa [PyData.canLay0] using this) hd⟩
 have h1 := h.dp
 have h2 := Y7 hd
 simp only [PyData.depth] at h1
 omega
theorem Th.l {ds : List D} (h : Th (.list ds)) : ∀ d ∈ ds, Th d := fun d hd => by
 refine ⟨N4 h.nd d hd, ?_, a5Y (ds := ds) (by have := h.cl; simpa [PyData.canLay0] using this) hd⟩
 have h1 := h.dp
 have h2 := Y7 hd
 simp only [PyData.depth] at h1
 omega
theorem Th.of {n : Nat} {d : D} (h : a03 n d = true) (hn : n ≤ 60) : Th d := by
 obtain ⟨h1, h2, h3⟩ := D6 h
 exact ⟨h1, by omega, h3⟩
theorem Th.strOk {x : Str} (h : Th (.str x)) : PyData.strOk x = true := h.cl
end BV
namespace BV
open PySem L2

theorem b16 (c : d7) : E2 (o9 c) = true := by
 cases c with
 | none => rfl
 | some p => obtain ⟨x, i⟩ := p; rfl
end BV
namespace BV
open PySem L2

structure FC where
 col : Nat
 row : Nat
 name : Str
 cam : Int
def a4e (r : Nat) : Nat → List d7 → List FC
 | _, [] => []
 | c, none :: l => a4e r (c + 1) l
 | c, some (x, i) :: l => ⟨c, r, x, i⟩ :: a4e r (c + 1) l
def b6v : Nat → List (List d7) → List FC
 | _, [] => []
 | r, row :: rows => a4e r 0 row ++ b6v (r + 1) rows
def b43 (rows : List (List d7)) (x : Str) : Option FC := (b6v 0 rows).find? fun f => decide (f.name = x)
def b7u (units : List Int) (f : FC) : Int := (units[f.row]?).getD 0 + f.cam
end BV
namespace BV
open PySem L2

def b84 (units : List Int) (rows : List (List d7)) (x : Str) : Int := match b43 rows x with
 | some f => b7u units f
 | none => 0
def b7s (units : List Int) (rows : List (List d7)) (s l f a b : Int) (x : Str) : Int := if x = blank then l + (15 * a + b) * f else b84 units rows x * s
def b9Q (units : List Int) (rows : List (List d7)) (s l f a b : Int) (xs : List Str) : Int := (xs.map (b7s units rows s l f a b)).sum
def c1W (units : List Int) (rows : List (List d7)) (s l f m : Int) : D := .tuple [N7 units rows, .int s, .int l, .int f, .int m]
def sm (i : Int) : Prop := i.natAbs < 2 ^ 200
theorem a06 {i j : Int} (h1 : sm i) (h2 : sm j) : C5 (.int i) (.int j) = some (.val (.int (i * j))) := N6 (by
 have a : i.natAbs.log2 ≤ 199 := K3 h1
 have b : j.natAbs.log2 ≤ 199 := K3 h2
 omega)
theorem V8 {i : Int} (h0 : -2 ^ 100 ≤ i) (h1 : i ≤ 2 ^ 100) : sm i := by
 unfold sm
 have : (2:Int) ^ 200 = 2 ^ 100 * 2 ^ 100 := by decide
 have h2 : i.natAbs ≤ 2 ^ 100 := by omega
 exact Nat.lt_of_le_of_lt h2 (by decide)
structure b9s (s l f a b : Int) : Prop where
 s0 : 1 ≤ s
 s1 : s ≤ 1000
 l0 : 1 ≤ l
 l1 : l ≤ 100000
 f0 : 1 ≤ f
 f1 : f ≤ 1000
 a0 : 0 ≤ a
 a1 : a ≤ 1000000000
 b0 : 0 ≤ b
 b1 : b ≤ 1000000000
end BV
namespace BV
open PySem L2

@[simp] theorem c1x {f : SE} {ρ : En} {S : Sto} : b6c f ρ S = (match f (frE ρ) S with | .ok t S1 => if lfT t && lfS S1 then .ok t S1 else .bad | .exc e S1 => if lfS S1 then .exc e S1 else .bad | .bad => .bad) := rfl
@[simp] theorem c0j : frE [] = [] := rfl
@[simp] theorem b81 {t : Option T} {ρ : En} : frE (t :: ρ) = t.map frT :: frE ρ := rfl
@[simp] theorem b9x {d : D} : frT (.val d) = .val d := rfl
@[simp] theorem b8B {xs : List D} : frT (.own xs) = .val (.list xs) := rfl
@[simp] theorem b75 {xs : List (List D)} : frT (.own2 xs) = .val (.list (xs.map PyData.list)) := rfl
@[simp] theorem b7Y {q : Bool} {kvs : List (D × D)} : frT (.ownd q kvs) = .val (.dict (mkD q kvs)) := rfl
@[simp] theorem b9z {n : Nat} : frT (.cel n) = .cel n := rfl
@[simp] theorem b8G {n : List Int} : frT (.scr n) = .scr n := rfl
@[simp] theorem b8A {xs : List D} : lfT (.own xs) = lfs xs := rfl
@[simp] theorem b8H {d : D} : lfT (.val d) = lf d := rfl
@[simp] theorem c2n : lf .none = true := rfl
@[simp] theorem c2d {b : Bool} : lf (.bool b) = true := rfl
@[simp] theorem c2f {b : Int} : lf (.int b) = true := rfl
@[simp] theorem c2p {b : Str} : lf (.str b) = true := rfl
@[simp] theorem c0O {xs : List D} : lf (.tuple xs) = lfs xs := rfl
@[simp] theorem b9C : lfs [] = true := rfl
@[simp] theorem b8j {x : D} {xs : List D} : lfs (x :: xs) = (lf x && lfs xs) := rfl
theorem b3V {n m : Nat} {S S' : Sto} (h : lfS S = true) (x : Ext n S S') (hb : HasBag S' n m) : lfS S' = true := by
 unfold lfS at h ⊢
 rw [List.all_eq_true] at h ⊢
 intro c hc
 obtain ⟨i, hi, e⟩ := List.mem_iff_getElem.mp hc
 have e1 : S'[i]? = some c := by rw [List.getElem?_eq_getElem hi, e]
 by_cases z : i = n
 ·obtain ⟨a, b, e2, _⟩ := hb
  rw [← z, e1] at e2
  cases e2
  rfl
 ·exact h c (List.mem_of_getElem? (by rw [← x.rest i z]; exact e1))
theorem a9Y {S : Sto} {a b : Int} (h : lfS S = true) : lfS (S ++ [.lst [.int a, .int b]]) = true := by
 unfold lfS at h ⊢
 rw [List.all_append, h]
 rfl
theorem a5T {α : Type} (u : α → D) (h : ∀ a, lf (u a) = true) : ∀ xs : List α, lfs (xs.map u) = true
 | [] => rfl
 | x :: xs => by rw [List.map_cons, lfs, a5T u h xs, h]; rfl
end BV
namespace BV
open PySem L2

end BV
namespace BV
open PySem L2

def a2H (units : List Int) (rows : List (List d7)) (s l f m : Int) (xs : List Str) : Int := m - b9Q units rows s l f 0 0 xs
def a9S (f : Int) (xs : List Str) : Int := (xs.count blank : Nat) * f
def b5c (left each : Int) : Bool := decide (each = 0) && decide (0 < left) || decide (0 < each) && decide (224 < left / each)
structure b7B (s l f m : Int) : Prop where
 n : b9s s l f 0 0
 m0 : 1 ≤ m
 m1 : m ≤ 1000000
end BV
namespace BV
open PySem L2

section
variable {hx : a4f} {i : Nat} {k : Exc → Sto → R T} {ρ ρ1 : En} {S S1 : Sto} {c : Str} {cs : List Str} {f : Str} {g : SS} {su : a4f → SS} {e : Exc} {t : T} {r : Fl} {n : Nat} {ts : List T}
end
end BV
namespace BV
open PySem L2

section
variable {units : List Int} {rows : List (List d7)} {S : Sto} {w h : Nat}
end
section
variable {units : List Int} {rows : List (List d7)} {S : Sto} {w h : Nat}
end
end BV
namespace BV
open PySem L2
theorem a7K {α : Type} {xs : List α} {i j : Nat} (h : i ≤ xs.length) (hj : i ≤ j) : Z2 xs (some (i : Int)) (some (j : Int)) = (xs.drop i).take (j - i) := by
 unfold Z2
 rw [HT.sIx_nat, HT.sIx_nat, Nat.min_eq_left h]
 by_cases q : j ≤ xs.length
 ·rw [Nat.min_eq_left q]
 ·rw [Nat.min_eq_right (by omega), List.take_of_length_le (by rw [List.length_drop]; omega), List.take_of_length_le (by rw [List.length_drop]; omega)]
section
variable {S : Sto}
end
end BV
namespace BV
open PySem L2

@[simp] theorem c0N {i : Nat} {m : List D → List D → Option (List D × D)} {fs : SU} {k : D → En → Sto → Fl} {ρ : En} {S : Sto} : b3q i m fs k ρ S = (match ρ[i]? with
 | some (some (.own xs)) => sA fs (fun ds ρ S => match m xs ds with | some (xs', d) => k d (ρ.set i (some (.own xs'))) S | none => .bad) ρ S
 | _ => .bad) := rfl
section
variable {units : List Int} {rows : List (List d7)} {S : Sto} {w h n m : Nat}
def b56 (x : Str) : Prop := x = "kept" ∨ x = "open" ∨ x = "struck"
def b9Y (xs : List Str) (way : Str) : D := .tuple [.list (xs.map PyData.str), .str way]
end
end BV
namespace BV
open PySem L2

end BV
namespace BV
open PySem L2

def non : Str := "none"
abbrev b8r := List Nat
section
variable {S : Sto} {r : b8r} {rs : List b8r}
end
section
variable {S : Sto} {r : b8r} {rs : List b8r}
end
section
variable {S : Sto}
end
end BV
namespace BV
open PySem L2
structure b4M (ws : List Str) : Prop where
 free : ∀ p ∈ ws, 32 ∉ p.cps.toList
 ok : ∀ p ∈ ws, PyData.strOk p = true
 pos : ∀ p ∈ ws, 1 ≤ p.length
 most : ∀ p ∈ ws, p.length ≤ 200
 few : ws.length ≤ 100
section
variable {S : Sto} {units : List Int} {rows : List (List d7)} {w h : Nat} {s l f m : Int}
end
end BV
namespace BV
open PySem L2

end BV
namespace BV
open PySem L2

section
variable {S : Sto}
end
end BV
namespace BV
open PySem L2
section
variable {S : Sto}
end
end BV
namespace BV
open PySem L2
section
variable {S : Sto}
end
end BV
namespace BV
open PySem L2
section
variable {S : Sto} {units : List Int} {rows : List (List d7)} {w h : Nat} {s l f m : Int}
def pr (t : Int × Int × Nat) : Int × Int := (t.1, t.2.1)
theorem c0q {a b : Int} {x y : List (Int ⊕ List Nat)} : PyProof.Rows.lexLt PyProof.Rows.itemOrd (.inl a :: x) (.inl b :: y) = if a = b then PyProof.Rows.lexLt PyProof.Rows.itemOrd x y else decide (a < b) := by
 by_cases e : a = b
 ·subst e
  rw [if_pos rfl]
  exact PyProof.Rows.lex_self (O := PyProof.Rows.itemOrd) _ _ _
 ·rw [if_neg e, PyProof.Rows.lex_diff (O := PyProof.Rows.itemOrd) (by intro z; exact e (Sum.inl.inj z))]
  rfl
end
end BV
namespace BV
open PySem L2
section
variable {S : Sto} {units : List Int} {rows : List (List d7)} {w h : Nat} {s l f m : Int}
end
end BV
namespace BV
open PySem L2
section
variable {S : Sto} {units : List Int} {rows : List (List d7)} {w h n m : Nat} {s l f g : Int}
end
end BV
namespace BV
open PySem L2
section
variable {S : Sto} {units : List Int} {rows : List (List d7)} {w h n m : Nat} {s l f g : Int}
structure Lt (k : Nat) (x : Str) : Prop where
 all : ∀ c ∈ x.cps.toList, 97 ≤ c ∧ c ≤ 122
 len : x.length ≤ k
theorem Lt.mono {j k : Nat} {x : Str} (a : Lt j x) (h : j ≤ k) : Lt k x := ⟨a.all, Nat.le_trans a.len h⟩
theorem Lt.ok {k : Nat} {x : Str} (a : Lt k x) : PyData.strOk x = true := ok_cps.mpr fun c hc => by have := a.all c hc; omega
theorem Lt.free {k : Nat} {x : Str} (a : Lt k x) : 32 ∉ x.cps.toList := fun z => by have := a.all 32 z; omega
end
end BV
namespace BV
open PySem L2
section
variable {S : Sto} {units : List Int} {rows : List (List d7)} {w h n : Nat} {s l f m : Int}
end
end BV
namespace BV
open PySem L2

theorem a1y {α : Type} (u : α → D) {acc : List α} {x : α} (h : acc.length < 100000) : E4 (acc.map u) [u x] = some ((acc ++ [x]).map u, .none) := by
 show (if (acc.map u).length < sizeLine then some (acc.map u ++ [u x], PyData.none) else none) = _
 rw [if_pos (by rw [List.length_map]; exact p6 h), List.map_append]
 rfl
section
variable {S : Sto}
theorem a4B : ∀ (m : Nat), j8 0 m = (List.range m).map fun (i : Nat) => PyData.int (i : Int) := fun m => by
 apply List.ext_getElem?
 intro i
 rw [List.getElem?_map]
 by_cases h : i < m
 ·rw [List.getElem?_range h]
  have h2 : i < (j8 0 m).length := by simp [j8]; exact h
  rw [List.getElem?_eq_getElem h2]
  obtain ⟨_, e⟩ := G0 (List.getElem?_eq_getElem h2)
  rw [e]; rfl
 ·rw [List.getElem?_eq_none (by simp [j8]; omega), List.getElem?_eq_none (by simp; omega)]
  rfl
end
end BV
namespace BV
open PySem L2

inductive SgM where
 | letter (c r : Nat) (k : Int) | blank (c r : Nat) | coarse (s : Nat) | fine (s : Nat) | struck
 deriving DecidableEq
section
variable {w h : Nat} {S : Sto}
end
end BV
namespace BV
open PySem L2

def two (a b : Option Nat) (f : Nat → Nat → SgM) : Option SgM := match a, b with
 | some x, some y => some (f x y)
 | _, _ => none
section
variable {S : Sto} {w h : Nat}
end
end BV
namespace BV
open PySem L2

section
variable {w h : Nat} {ns : List Nat} {s : SgM}
end
end BV
namespace BV
open PySem L2

section
variable {S : Sto} {w h : Nat}
end
end BV
namespace BV
open PySem L2

section
variable {S : Sto} {w h : Nat}
end
end BV
namespace BV
open PySem L2

section
variable {S : Sto} {w h n : Nat}
end
end BV
namespace BV
open PySem L2

section
variable {units : List Int} {rows : List (List d7)} {S : Sto} {w h : Nat} {d : D} {f : FC}
end
end BV
namespace BV
open PySem L2

section
variable {units : List Int} {rows : List (List d7)} {S : Sto} {w h n : Nat} {s l f m : Int} {xs : List Str}
def sgN (rows : List (List d7)) (x : Str) : SgM := match b43 rows x with
 | some f => if f.name = blank then .blank f.col f.row else .letter f.col f.row f.cam
 | none => .struck
def b1b (i : Int) : Exc := ⟨"Tight", some ("by", .int i)⟩
def b3f (i : Int) : Exc := ⟨"Loose", some ("by", .int i)⟩
def b22 (units : List Int) (rows : List (List d7)) (s l f m : Int) (xs : List Str) : Except Exc (Nat × Nat) :=
 if a2H units rows s l f m xs < 0 then .error (b1b (-a2H units rows s l f m xs))
 else if b5c (a2H units rows s l f m xs) (a9S f xs) = true then .error (b3f (a2H units rows s l f m xs - 224 * a9S f xs))
 else if a9S f xs = 0 then .ok (0, 0)
 else .ok ((a2H units rows s l f m xs / a9S f xs / 15).toNat, (a2H units rows s l f m xs / a9S f xs % 15).toNat)
def b3m (units : List Int) (rows : List (List d7)) (s l f m : Int) (xs : List Str) : Except Exc (Nat × Nat) :=
 if a2H units rows s l f m xs < 0 then .error (b1b (-a2H units rows s l f m xs)) else .ok (0, 0)
def b9u (units : List Int) (rows : List (List d7)) (s l f m : Int) (xs : List Str) (way : Str) : Except Exc (List SgM) :=
 if way = "struck" then .ok [.struck]
 else match (if way = "kept" then b22 units rows s l f m xs else b3m units rows s l f m xs) with
  | .ok p => .ok [.coarse p.1, .fine p.2]
  | .error e => .error e
def b0I (units : List Int) (rows : List (List d7)) (s l f m : Int) (xs : List Str) (way : Str) : Except Exc (List SgM) := match b9u units rows s l f m xs way with
 | .ok es => .ok (xs.map (sgN rows) ++ es)
 | .error e => .error e
abbrev a1u := List Str × Str
def b6E (p : a1u) : D := b9Y p.1 p.2
def a02 (units : List Int) (rows : List (List d7)) (s l f m : Int) : List a1u → Except Exc (List SgM)
 | [] => .ok []
 | p :: ps => match b0I units rows s l f m p.1 p.2 with
  | .error e => .error e
  | .ok a => match a02 units rows s l f m ps with
   | .error e => .error e
   | .ok b => .ok (a ++ b)
def b7l : Exc := ⟨"TooMany", none⟩
def a9A (units : List Int) (rows : List (List d7)) (s l f m : Int) (ps : List a1u) : Except Exc (List SgM) := match a02 units rows s l f m ps with
 | .error e => .error e
 | .ok ss => if 400 < ss.length then .error b7l else .ok ss
end
end BV
namespace BV
open PySem L2

section
variable {units : List Int} {rows : List (List d7)} {S : Sto} {w h n : Nat} {s l f m : Int}
end
end BV
namespace BV
open PySem L2
section
variable {units : List Int} {rows : List (List d7)} {S : Sto} {w h n : Nat} {s l f m : Int}
structure c0B where
 b : Nat
 e : Nat
 st : Option (Nat × Nat)
 xs : List Str
 deriving DecidableEq
end
end BV
namespace BV
open PySem L2
section
variable {units : List Int} {rows : List (List d7)} {S : Sto} {w h n : Nat} {s l f m : Int}
theorem snoc {α : Type} : ∀ {xs : List α}, xs ≠ [] → ∃ ys x, xs = ys ++ [x]
 | [], h => absurd rfl h
 | [x], _ => ⟨[], x, rfl⟩
 | x :: y :: r, _ => by
  obtain ⟨ys, z, e⟩ := snoc (xs := y :: r) (by simp)
  exact ⟨x :: ys, z, by rw [e]; rfl⟩
def b57 (units : List Int) (rows : List (List d7)) (s l f m : Int) (p : a1u) : List SgM := match b0I units rows s l f m p.1 p.2 with
 | .ok a => a
 | .error _ => []
def c0i (units : List Int) (rows : List (List d7)) (s l f m : Int) (p : a1u) : Option (Nat × Nat) := if p.2 = "struck" then none else match (if p.2 = "kept" then b22 units rows s l f m p.1 else b3m units rows s l f m p.1) with
 | .ok z => some z
 | .error _ => none
def b9H (units : List Int) (rows : List (List d7)) (s l f m : Int) (b : Nat) (p : a1u) : c0B := ⟨b, b + (b57 units rows s l f m p).length, c0i units rows s l f m p, if (c0i units rows s l f m p).isSome then p.1.reverse else []⟩
def readOf (units : List Int) (rows : List (List d7)) (s l f m : Int) : Nat → List a1u → List c0B
 | _, [] => []
 | b, p :: ps => b9H units rows s l f m b p :: readOf units rows s l f m (b + (b57 units rows s l f m p).length) ps
end
end BV
namespace BV
open PySem L2
section
variable {units : List Int} {rows : List (List d7)} {S : Sto} {w h n : Nat} {s l f m : Int}
structure WideOk (s l f m : Int) : Prop where
 s0 : 1 ≤ s
 s1 : s ≤ 4
 l0 : 1 ≤ l
 l1 : l ≤ 50
 f0 : 40 ≤ f
 f1 : f < 140
 m0 : 8000 ≤ m
 m1 : m < 9000
theorem WideOk.job (q : WideOk s l f m) : b7B s l f m := by
 obtain ⟨_, _, _, _, _, _, _, _⟩ := q
 exact ⟨⟨by omega, by omega, by omega, by omega, by omega, by omega, by omega, by omega, by omega, by omega⟩, by omega, by omega⟩
end
end BV
namespace BV
open PySem L2
section
variable {units : List Int} {rows : List (List d7)} {S : Sto} {w h n : Nat} {s l f m : Int}
end
end BV
namespace BV
open PySem L2
section
variable {units : List Int} {rows : List (List d7)} {S : Sto} {w h n : Nat} {s l f m : Int}
def a4P (rows : List (List d7)) (x : Str) : Int × Int := match b43 rows x with
 | some g => ((g.col : Int), (g.row : Int))
 | none => (-1, -1)
abbrev Cts := List ((Int × Int) × Nat)
def kvP (ps : Cts) : List (List Int × D) := ps.map fun q => (A7 q.1, .int (q.2 : Int))
def c0M (ps : Cts) (k : Int × Int) (n : Nat) : Cts := if ps.any (fun q => decide (q.1 = k)) then ps.map (fun q => if q.1 = k then (q.1, n) else q) else ps ++ [(k, n)]
theorem b0O {a b : Int × Int} : A7 a = A7 b ↔ a = b := by
 unfold A7
 constructor
 ·intro h
  injection h with h1 h2
  injection h2 with h3 _
  exact Prod.ext h1 h3
 ·intro h; rw [h]
def cnt (rows : List (List d7)) (xs : List Str) (k : Int × Int) : Nat := xs.countP fun x => decide (a4P rows x = k)
structure CntOk (rows : List (List d7)) (ps : Cts) (xs : List Str) : Prop where
 nd : (ps.map (·.1)).Nodup
 mem : ∀ q, q ∈ ps ↔ 0 < q.2 ∧ q.2 = cnt rows xs q.1
theorem CntOk.key {ps : Cts} {xs : List Str} (c : CntOk rows ps xs) (k : Int × Int) : k ∈ ps.map (·.1) ↔ 0 < cnt rows xs k := by
 rw [List.mem_map]
 constructor
 ·rintro ⟨q, hq, rfl⟩
  obtain ⟨h1, h2⟩ := (c.mem q).mp hq
  omega
 ·intro h
  exact ⟨(k, cnt rows xs k), (c.mem _).mpr ⟨h, rfl⟩, rfl⟩
theorem CntOk.get {ps : Cts} {xs : List Str} (c : CntOk rows ps xs) (k : Int × Int) : b5d (kvP ps) (A7 k) = if 0 < cnt rows xs k then some (.int (cnt rows xs k : Int)) else none := by
 unfold b5d kvP
 rw [List.find?_map, Option.map_map]
 have e : ((fun p : List Int × D => decide (p.1 = A7 k)) ∘ fun q : (Int × Int) × Nat => (A7 q.1, PyData.int (q.2 : Int))) = fun q => decide (q.1 = k) := by
  funext q
  show decide (A7 q.1 = A7 k) = decide (q.1 = k)
  rw [Bool.eq_iff_iff, decide_eq_true_eq, decide_eq_true_eq]
  exact b0O
 rw [e]
 cases hf : ps.find? (fun q => decide (q.1 = k)) with
 | none =>
  rw [if_neg]
  ·rfl
  ·intro h
   have := (c.mem (k, cnt rows xs k)).mpr ⟨h, rfl⟩
   have := List.find?_eq_none.mp hf _ this
   simp at this
 | some q =>
  have hk : q.1 = k := by
   have := List.find?_some hf
   exact of_decide_eq_true this
  obtain ⟨h1, h2⟩ := (c.mem q).mp (List.mem_of_find?_eq_some hf)
  rw [hk] at h2
  rw [if_pos (by omega), ← h2]
  rfl
theorem a7i (xs : List Str) (x : Str) (k : Int × Int) : cnt rows (xs ++ [x]) k = cnt rows xs k + if a4P rows x = k then 1 else 0 := by
 unfold cnt
 rw [List.countP_append, List.countP_singleton]
 simp
theorem CntOk.put {ps : Cts} {xs : List Str} (c : CntOk rows ps xs) (x : Str) : CntOk rows (c0M ps (a4P rows x) (cnt rows xs (a4P rows x) + 1)) (xs ++ [x]) := by
 have hk : (ps.any fun q => decide (q.1 = a4P rows x)) = decide (a4P rows x ∈ ps.map (·.1)) := by
  rw [Bool.eq_iff_iff, List.any_eq_true, decide_eq_true_eq, List.mem_map]
  exact ⟨fun ⟨q, h1, h2⟩ => ⟨q, h1, of_decide_eq_true h2⟩, fun ⟨q, h1, h2⟩ => ⟨q, h1, decide_eq_true h2⟩⟩
 unfold c0M
 rw [hk]
 by_cases h : a4P rows x ∈ ps.map (·.1)
 ·rw [if_pos (decide_eq_true h)]
  constructor
  ·have : (ps.map fun q => if q.1 = a4P rows x then (q.1, cnt rows xs (a4P rows x) + 1) else q).map (·.1) = ps.map (·.1) := by
    rw [List.map_map]
    refine List.map_congr_left fun q _ => ?_
    simp only [Function.comp]
    split <;> rfl
   rw [this]
   exact c.nd
  ·intro q
   rw [List.mem_map, a7i]
   constructor
   ·rintro ⟨p, hp, rfl⟩
    obtain ⟨h1, h2⟩ := (c.mem p).mp hp
    by_cases hq : p.1 = a4P rows x
    ·rw [if_pos hq]
     simp only
     rw [if_pos hq.symm, hq]
     omega
    ·rw [if_neg hq, if_neg (fun z => hq z.symm)]
     exact ⟨h1, by omega⟩
   ·rintro ⟨h1, h2⟩
    by_cases hq : a4P rows x = q.1
    ·rw [if_pos hq] at h2
     obtain ⟨p, hp, e⟩ := List.mem_map.mp h
     refine ⟨p, hp, ?_⟩
     rw [if_pos e]
     exact Prod.ext (e.trans hq) (by simp only; rw [h2, hq])
    ·rw [if_neg hq] at h2
     refine ⟨q, (c.mem q).mpr ⟨h1, by omega⟩, ?_⟩
     rw [if_neg (fun z => hq z.symm)]
 ·rw [if_neg (by simpa using h)]
  have h0 : cnt rows xs (a4P rows x) = 0 := by
   exact Nat.eq_zero_of_not_pos fun z => h ((c.key (a4P rows x)).mpr z)
  constructor
  ·rw [List.map_append, List.nodup_append]
   refine ⟨c.nd, by simp, fun a ha b hb => ?_⟩
   simp at hb
   subst hb
   intro z
   rw [z] at ha
   exact h ha
  ·intro q
   rw [List.mem_append, List.mem_singleton, a7i]
   constructor
   ·rintro (hq | rfl)
    ·obtain ⟨h1, h2⟩ := (c.mem q).mp hq
     have : ¬ a4P rows x = q.1 := fun z => h (by rw [z]; exact List.mem_map.mpr ⟨q, hq, rfl⟩)
     rw [if_neg this]
     exact ⟨h1, by omega⟩
    ·simp
   ·rintro ⟨h1, h2⟩
    by_cases hq : a4P rows x = q.1
    ·right
     rw [if_pos hq] at h2
     exact Prod.ext hq.symm (by simp only; rw [h2, hq])
    ·left
     rw [if_neg hq] at h2
     exact (c.mem q).mpr ⟨h1, by omega⟩
end
end BV
namespace BV
open PySem L2

end BV
namespace BV
open PySem PySem.Spec PyProof.Rows L2
section
variable {ρ : En} {S S1 : Sto} {f fe : SE} {g : SB} {t : T} {n : Nat} {v v' : DskV} {j : D} {ls rs : List D} {i : Nat} {x : Str}
end
def b9A (j : D) (ls : List D) (ah un : List D) : DskV := ⟨some j, some (.list ls), some ah, some un⟩
def b8E (j : D) (ls : List D) : D := .tuple [j, .list ls]
section
variable {S : Sto} {n : Nat} {j j' : D} {ls ls' rs ah un : List D}
theorem at0 {v : DskV} {ρ : En} (h : S[n]? = some (.rcd false v)) : atR (some (.cel n) :: ρ) S 0 false = some (n, v) := b7t rfl h
end
end BV
namespace BV
open PySem L2

end BV
namespace BV
open PySem L2
section
variable {S : Sto}
end
end BV
namespace BV
open PySem PySem.Spec PyProof.Rows L2

def b4t : Exc := ⟨"NoName", none⟩
def b2n : Exc := ⟨"NoLines", none⟩
structure c1H (ws : List Str) : Prop where
 pos : ∀ p ∈ ws, 1 ≤ p.length
 most : ∀ p ∈ ws, p.length ≤ 400
 few : ws.length ≤ 150
section
variable {S : Sto} {units : List Int} {rows : List (List d7)} {w h : Nat}
end
end BV
namespace BV
open PySem PySem.Spec PyProof.Rows L2
section
variable {S : Sto} {units : List Int} {rows : List (List d7)} {w h : Nat}
end
end BV
namespace BV
open PySem PySem.Spec PyProof.Rows L2
end BV
namespace BV
open PySem PySem.Spec PyProof.Rows L2
def b0q : List Str := ["NoName", "NoLines", "Tight", "Loose", "TooMany", "NoLine", "NoText", "NoRow", "NoStep"]
section
variable {v : DskV} {S : Sto} {row : Str} {n : Nat}
section
variable {hx : a4f} {e : Exc} {ρ : En}
end
end
end BV
namespace BV
open PySem PySem.Spec PyProof.Rows L2
section
variable {S : Sto} {units : List Int} {rows : List (List d7)} {w h : Nat} {s l f m : Int} {xs : List Str}
def ByE (e : Exc) : Prop := e = b7l ∨ ∃ n : Nat, n ≤ 1000000000 ∧ (e = b1b (n : Int) ∨ e = b3f (n : Int))
theorem ByE.said {e : Exc} (h : ByE e) : e.cls ∈ b0q := by
 have h1 : ("TooMany" : Str) ∈ b0q := by decide
 have h2 : ("Tight" : Str) ∈ b0q := by decide
 have h3 : ("Loose" : Str) ∈ b0q := by decide
 rcases h with rfl | ⟨n, _, rfl | rfl⟩
 ·exact h1
 ·exact h2
 ·exact h3
end
end BV
namespace BV
open PySem PySem.Spec PyProof.Rows L2
structure JobM where
 w : Nat
 h : Nat
 units : List Int
 rows : List (List d7)
 s : Int
 l : Int
 f : Int
 m : Int
def JobM.d (J : JobM) : D := c1W J.units J.rows J.s J.l J.f J.m
structure c1A (J : JobM) : Prop where
 ck : b6b J.w J.h J.units J.rows
 hw : J.w ≤ 15
 hh : J.h ≤ 15
 q : b7B J.s J.l J.f J.m
def b93 (J : JobM) (ps : List a1u) : Except Exc (List SgM) := a9A J.units J.rows J.s J.l J.f J.m ps
def a9Q (ps : List a1u) : List D := ps.map b6E
structure LinesG (J : JobM) (ps : List a1u) : Prop where
 mem : ∀ p ∈ ps, (∀ x ∈ p.1, x ∈ F6 J.rows) ∧ p.1.length ≤ 60
 way : ∀ p ∈ ps, b56 p.2
 few : ps.length ≤ 500
section
variable {S : Sto} {J : JobM} {ps : List a1u}
theorem b2j {units : List Int} {rows : List (List d7)} {s l f m : Int} {xs : List Str} {way : Str} {a : List SgM} (e : b0I units rows s l f m xs way = .ok a) : 1 ≤ a.length := by
 unfold b0I at e
 cases r : b9u units rows s l f m xs way with
 | error _ => rw [r] at e; cases e
 | ok es =>
  rw [r] at e
  cases e
  have : 1 ≤ es.length := by
   unfold b9u at r
   split at r
   ·cases r; exact Nat.le_refl _
   ·split at r
    ·cases r; simp
    ·cases r
  rw [List.length_append]
  omega
theorem a2i {units : List Int} {rows : List (List d7)} {s l f m : Int} : ∀ {ps : List a1u} {a : List SgM}, a02 units rows s l f m ps = .ok a → ps.length ≤ a.length
 | [], a, e => by cases e; exact Nat.le_refl _
 | p :: ps, a, e => by
  unfold a02 at e
  cases r : b0I units rows s l f m p.1 p.2 with
  | error _ => rw [r] at e; cases e
  | ok b =>
   rw [r] at e
   cases r2 : a02 units rows s l f m ps with
   | error _ => rw [r2] at e; cases e
   | ok c =>
    rw [r2] at e
    cases e
    have h1 := b2j r
    have h2 := a2i r2
    rw [List.length_append, List.length_cons]
    omega
theorem b4y {ss : List SgM} (h : b93 J ps = .ok ss) : ps.length ≤ 400 ∧ ss.length ≤ 400 := by
 unfold b93 a9A at h
 cases r : a02 J.units J.rows J.s J.l J.f J.m ps with
 | error e => rw [r] at h; cases h
 | ok s' =>
  rw [r] at h
  simp only at h
  split at h
  ·cases h
  ·cases h
   have := a2i r
   constructor <;> omega
end
section
variable {ρ : En} {S S1 : Sto} {f fe : SE} {t : T} {n : Nat} {v v' : DskV} {i : Nat} {x : Str} {b : Bool}
end
section
variable {g : SS} {hs : List (List Str × Nat × (a4f → SS))} {ρ ρ1 : En} {S S1 : Sto} {t : T} {e : Exc} {r : Fl} {cs : List Str} {i : Nat} {su : a4f → SS}
end
section
variable {S : Sto} {J : JobM} {ps : List a1u}
end
section
variable {S : Sto} {n : Nat} {j j' : D} {ls ls' ah un : List D} {mr : Fn} {an : Exc → Str}
end
end BV
namespace BV
open PySem L2

end BV
namespace BV
open PySem L2
end BV
namespace BV
open PySem L2
section
variable {units : List Int} {rows : List (List d7)} {S : Sto} {w h n : Nat} {s l f m : Int}
theorem a7f {α : Type} {b : BT1} {tt : SB} {elt : SE} {ρ : En} (u : α → D) (p : α → Bool) (g : α → D) : ∀ (xs : List α), (∀ x ∈ xs, ∃ ρ1 t, b (u x) ρ = some ρ1 ∧ tt ρ1 S = .ok (p x) S ∧ elt ρ1 S = .ok t S ∧ asD t = some (g x)) → lcM b tt elt ρ (xs.map u) S = .ok ((xs.filter p).map g) S
 | [], _ => rfl
 | x :: xs, h => by
  obtain ⟨ρ1, t, e1, e2, e3, e4⟩ := h x (List.mem_cons_self ..)
  have ih := a7f u p g xs fun y hy => h y (List.mem_cons_of_mem _ hy)
  rw [List.map_cons]
  unfold lcM
  cases q : p x with
  | true => simp only [e1, e2, q, e3, e4, ih, M4, List.filter_cons, if_true, List.map_cons]
  | false => simp only [e1, e2, q, ih, List.filter_cons, Bool.false_eq_true, if_false]
end
end BV
namespace BV
open PySem L2

section
variable {S : Sto} {w h : Nat} {units : List Int} {rows : List (List d7)} {s l f m : Int}
end
end BV
namespace BV
open PySem PySem.Spec PyProof.Rows L2
theorem b2o (c : d7) : (o9 c).depth ≤ 1 := by
 cases c with
 | none => simp [o9, PyData.depth]
 | some p => obtain ⟨x, i⟩ := p; simp [o9, PyData.depth, PyData.depthAll]
abbrev b0E := JobM × List a1u
def b52 (p : b0E) : D := b8E p.1.d (a9Q p.2)
section
variable {S : Sto} {n : Nat} {j : D} {ls ah un : List D} {mr : Fn} {an : Exc → Str} {v : DskV} {f g : Str}
end
end BV
namespace BV
open PySem L2
section
variable {units : List Int} {rows : List (List d7)} {S : Sto} {w h n : Nat} {s l f m : Int}
end
end BV
namespace BV
open PySem L2
section
variable {units : List Int} {rows : List (List d7)} {S : Sto} {w h n : Nat} {s l f m : Int}
theorem b3N {xs : List Int} {m : Int} (h1 : m ∈ xs) (h2 : ∀ y ∈ xs, y ≤ m) : b15 [.list (xs.map PyData.int)] = some (.val (.int m)) := by
 show (F0 (xs.map PyData.int)).bind _ = _
 rw [a0K]
 show Option.map _ (b6H xs) = _
 cases xs with
 | nil => cases h1
 | cons x xs =>
  cases e : b6H (x :: xs) with
  | none => cases e
  | some q =>
   obtain ⟨q1, q2⟩ := a2B e
   have : q = m := Int.le_antisymm (h2 q q1) (q2 m h1)
   rw [this]
   rfl
end
end BV
namespace BV
open PySem L2

def T0 : SS := b7h 1 (fun a b => a + b) (cB1 a2g (i8 (cLc (a0X (b7 2)) (f9 3) (b1e (cB (cUn V0 (b7 3))) (cB (d9 (gEq true) (d9 gIx (b7 3) (cC (.int 1))) (cC (.int 0))))) (m7 3) [3]) A9))
def a0h : SS := j9 (s8 1 (cC (.int 0)))
  (j9 (a0Y (a0X (d9 gIx (b7 0) (cC (.int 1)))) (f9 2) T0)
  (U8 1))
def v6 : Fn := fnL 4 a0h
section
variable {S : Sto}
end
end BV
namespace BV
open PySem L2
section
variable {S : Sto} {hx : a4f}
end
end BV
namespace BV
open PySem L2

section
variable {S : Sto} {hx : a4f}
end
end BV
namespace BV
open PySem L2

section
variable {S : Sto} {n m : Nat}
end
end BV
namespace BV
open PySem L2
section
variable {S : Sto}
def ltD (p : Str × Int) : D := .tuple [.str p.1, .int p.2]
end
end BV
namespace BV
open PySem L2
def turned (c : d7) : Bool := match c with | some (_, i) => decide (i ≠ 0) | none => false
def a93 (r : List d7) : Nat := (r.filter turned).length
def camsN (rows : List (List d7)) : Nat := (rows.map a93).sum
theorem M5 {α β : Type} (f : α → β) (p : β → Bool) (q : α → Bool) (h : ∀ a, p (f a) = q a) : ∀ l : List α, ((l.map f).filter p).length = (l.filter q).length
 | [] => rfl
 | a :: l => by
  have ih := M5 f p q h l
  rw [List.map_cons, List.filter_cons, List.filter_cons, h]
  cases q a <;> simp [ih]
def a0v : D → Bool
 | .tuple [_, .int i] => decide (i ≠ 0)
 | _ => false
theorem a2V (c : d7) : a0v (o9 c) = turned c := by
 cases c with
 | none => rfl
 | some p => obtain ⟨x, i⟩ := p; rfl
theorem b0d {S : Sto} {units : List Int} {rows : List (List d7)} : v6 [.val (N7 units rows)] S = .ok (.val (.int (camsN rows))) S := by
 unfold v6
 refine F7 ?_
 unfold a0h
 simp only [b0N, List.map_cons, List.map_nil, List.length_cons, List.length_nil]
 refine b9 (by simp; exact ⟨rfl, rfl⟩) ?_
 obtain ⟨ρ', S', e, t, y, rfl, rfl⟩ := v5 (b := f9 2) (body := T0)
  (fun i ρ S' => ∃ (t y : Option T), ρ = [some (.val (N7 units rows)), some (.val (.int (camsN (rows.take i)))), t, y] ∧ S' = S) (rows.map U9) 0 [some (.val (N7 units rows)), some (.val (.int 0)), none, none] S ⟨none, none, rfl, rfl⟩ (by
   rintro i d ρ S1 hd ⟨t, y, rfl, rfl⟩
   rw [List.getElem?_map] at hd
   cases hr : rows[i]? with
   | none => rw [hr] at hd; cases hd
   | some r =>
    rw [hr] at hd
    simp only [Option.map_some, Option.some.injEq] at hd
    subst hd
    have e := a0T (b := f9 3) (tt := b1e (cB (cUn V0 (b7 3))) (cB (d9 (gEq true) (d9 gIx (b7 3) (cC (.int 1))) (cC (.int 0))))) (elt := m7 3) (S := S1)
     (ρ := [some (.val (N7 units rows)), some (.val (.int (camsN (rows.take (0 + i))))), some (.val (U9 r)), none]) a0v (r.map o9) (by
      intro d hd
      obtain ⟨c, hc, rfl⟩ := List.mem_map.mp hd
      refine ⟨_, rfl, ?_, by simp⟩
      cases c with
      | none => simp [o9, a0v]
      | some p => obtain ⟨x, j⟩ := p; simp [o9, a0v])
    have hl := M5 o9 a0v turned a2V r
    refine ⟨_, rfl, [some (.val (N7 units rows)), some (.val (.int (camsN (rows.take (i + 1))))), some (.val (U9 r)), y], S1, .inl ?_, _, _, by rw [Nat.zero_add], rfl⟩
    have hs : camsN (rows.take (i + 1)) = camsN (rows.take i) + a93 r := by
     unfold camsN
     rw [List.take_add_one, hr, List.map_append]
     simp
    simp only [Nat.zero_add] at e ⊢
    unfold T0
    simp [U9] at e ⊢
    simp [e, hl, hs, a93])
 rw [List.length_map, Nat.zero_add, List.take_length] at e
 refine b9 (by simp [N7] at e ⊢; exact e) ?_
 simp
section
variable {S : Sto} {w h : Nat} {units : List Int} {rows : List (List d7)}
end
end BV
namespace BV
open PySem L2

def F3 (fR : Fn) : SS := j9 (s8 5 (cB1 b5N (i8 (d9 gSub (d9 gIx (b7 0) (cC (.int 0))) (d9 gIx (b7 1) (b7 4))) A9)))
  (sIf (b1e (cB (d9 gGt (d9 gIx (b7 2) (b7 4)) (cC (.int 0)))) (cB (d9 gLt (b7 5) (cC (.int 2))))) (j9 (s8 6 (d9 B2 (d9 B2 (cSl (b7 2) P1 (V9 (b7 4))) (n9 (d3 (d9 gSub (d9 gIx (b7 2) (b7 4)) (cC (.int 1))) m6))) (cSl (b7 2) (V9 (d9 B2 (b7 4) (cC (.int 1)))) P1)))
  (j9 (s8 7 (b6c (t9 fR (d3 (cSl (b7 0) (V9 (cC (.int 1))) P1) (d3 (m7 1) (d3 (m7 6) m6))))))
  (sIf (b1e (cB (cUn V0 (b7 7))) (bOr (cB (cUn b2B (b7 3))) (cB (d9 gLt (d9 B2 (b7 5) (b7 7)) (b7 3))))) (s8 3 (d9 B2 (b7 5) (b7 7))) t4))) t4)
def o4 (fR : Fn) : SS := j9 (sIf (cB (d9 (gEq false) (b7 0) (n9 m6))) (O3 (cC (.int 0))) t4)
  (j9 (s8 3 (cC .none))
  (j9 (a0Y (a18 Q4 (i8 (cB1 a2g (i8 (b7 1) A9)) A9)) (f9 4) ((F3 fR)))
  (U8 3)))
def w8 : Fn := a9X 8 o4 7
def B8 (fR : Fn) : SS := b3q 3 u8 (i8 (cLc (a0X (t9 fR (d3 (m7 4) (d3 (m7 1) (d3 (d9 gSub (b7 2) (cC (.int 1))) m6))))) (f9 5) a0w (d9 B2 (n9 (d3 (m7 4) m6)) (b7 5)) [5]) A9) a0s
def j6 (fR : Fn) : SS := j9 (sIf (cB (d9 (gEq false) (b7 2) (cC (.int 0)))) (O3 (n9 (d3 (n9 m6) m6))) t4)
  (j9 (s8 3 (n9 m6))
  (j9 (a0Y (a18 a0l (i8 (b7 0) (i8 (d9 B2 (b7 1) (cC (.int 1))) A9))) (f9 4) ((B8 fR)))
  (U8 3)))
def t6 : Fn := a9X 6 j6 5
def O7 : SS := j9 (s8 4 (t9 w8 (d3 (m7 1) (d3 (m7 3) (d3 (d9 C5 (n9 (d3 (d9 gIx (b7 0) (cC (.int 0))) m6)) (d9 gIx (b7 0) (cC (.int 1)))) m6)))))
  (sIf (b1e (cB (cUn V0 (b7 4))) (bOr (cB (cUn b2B (b7 2))) (cB (d9 gLt (b7 4) (b7 2))))) (s8 2 (m7 4)) t4)
def G3 : SS := j9 (sIf (cB (d9 gGe (cB1 a2g (i8 (b7 1) A9)) (d9 C5 (d9 gIx (b7 0) (cC (.int 0))) (d9 gIx (b7 0) (cC (.int 1)))))) (O3 (cC .none)) t4)
  (j9 (sIf (cB (d9 (gEq false) (b7 1) (n9 m6))) (O3 (cC (.int 0))) t4)
  (j9 (s8 2 (cC .none))
  (j9 (a0Y (a0X (t9 t6 (d3 (cB1 a4d (i8 (cC (.int 1)) (i8 (d9 gSub (cB1 b1R (i8 (b7 1) A9)) (cC (.int 1))) A9))) (d3 (cB1 a3k (i8 (cC (.int 30)) (i8 (d9 B2 (cB1 b15 (i8 (b7 1) A9)) (cC (.int 1))) A9))) (d3 (d9 gIx (b7 0) (cC (.int 1))) m6))))) (f9 3) O7)
  (U8 2))))
def r9 : Fn := fnL 5 G3
def I0 : SS := j9 (s8 2 (cC .none))
  (j9 (b7Q (s8 2 (t9 m9 (d3 (m7 0) (d3 (m7 1) m6)))) [("NoLayout", s8 2 (cC .none))])
  (U8 2))
def k6 : Fn := fnL 3 I0
def a2p : SS := j9 (b5k 2 (t9 D9 (d3 (m7 0) (d3 (m7 1) m6))))
  (j9 (s8 3 (Y1 (d3 (d9 B2 (cC (.int 2)) (t9 j7 (d3 (m7 2) (d3 (cC (.int 2)) m6)))) (d3 (d9 B2 (cC (.int 2)) (t9 j7 (d3 (m7 2) (d3 (cC (.int 2)) m6)))) m6))))
  (j9 (s8 4 (t9 j7 (d3 (m7 2) (d3 (cC (.int 6)) m6))))
  (j9 (s8 5 (d9 B2 (cC (.int 1)) (t9 j7 (d3 (m7 2) (d3 (cC (.int 4)) m6)))))
  (j9 (s8 6 (d9 B2 (cC (.int 1)) (t9 j7 (d3 (m7 2) (d3 (d9 gSub (cC (.int 31)) (b7 5)) m6)))))
  (j9 (s8 7 (cLc (a18 Q4 (i8 (b7 4) A9)) (f9 11) a0w (Y1 (d3 (d9 gIx (cC (.str "abcde")) (b7 11)) (d3 (d9 B2 (b7 6) (t9 j7 (d3 (m7 2) (d3 (m7 5) m6)))) m6))) [11]))
  (j9 (s8 8 (t9 r9 (d3 (m7 3) (d3 (cLc (a0X (b7 7)) (a0S 2 (o8 (f9 12) (o8 (f9 13) a1K))) a0w (m7 13) [12, 13]) m6))))
  (sFz 7 (j9 (s8 9 (t9 k6 (d3 (m7 3) (d3 (m7 7) m6))))
  (j9 (sIf (b1e (cB (cUn b2B (b7 8))) (cB (cUn V0 (b7 9)))) (O3 (cC (.bool false))) t4)
  (sIf (cB (cUn V0 (b7 8))) (j9 (sIf (cB (cUn b2B (b7 9))) (O3 (cC (.bool false))) t4)
  (j9 (s8 10 (t9 v6 (d3 (m7 9) m6)))
  (sIf (bOr (b6l (cT (cUn (H7 "int") (b7 10)))) (bOr (cT (cUn (H7 "bool") (b7 10))) (cB (d9 (gEq true) (b7 10) (b7 8))))) (O3 (cC (.bool false))) t4))) t4))))))))))
def b2m : SS := j9 (a0Y (a18 Q4 (i8 (cC (.int 3)) A9)) (f9 1) a2p)
  (O3 (cC (.bool true)))
def a4x : Fn := fnL 14 b2m

end BV
namespace BV
open PySem PySem.Spec PyProof.Rows L2
section
variable {J : JobM} {ws : List Str}
end
section
variable {S : Sto} {J : JobM} {ws : List Str}
end
end BV
namespace BV
open PySem PySem.Spec PyProof.Rows L2
def c1E (c : Nat) : Bool := decide (48 ≤ c) && decide (c ≤ 57)
def c1X (x : Str) : Str := match x.cps.toList with
 | [] => x
 | c :: _ => ⟨#[c]⟩
def c10 (x : Str) : Bool := decide (1 ≤ x.length) && decide (x.length ≤ 7) && x.cps.toList.all c1E && (decide (x = "0") || decide (c1X x ≠ "0"))
section
variable {S : Sto} {x : Str}
end
section
variable {S : Sto} {w : Str} {r : List Str}
end
section
variable {S : Sto} {n : Nat} {v : DskV} {row w : Str} {ws : List Str}
end
end BV
namespace BV
open PySem PySem.Spec PyProof.Rows L2
structure DM where
 J : JobM
 ps : List a1u
 ah : List b0E
 un : List b0E
def DM.v (M : DM) : DskV := b9A M.J.d (a9Q M.ps) (M.ah.map b52) (M.un.map b52)
structure KeptG (p : b0E) : Prop where
 g : c1A p.1
 k : LinesG p.1 p.2
 r : ∃ ss, b93 p.1 p.2 = .ok ss
structure DMG (c : Nat) (M : DM) : Prop where
 now : KeptG (M.J, M.ps)
 ah : ∀ p ∈ M.ah, KeptG p
 un : ∀ p ∈ M.un, KeptG p
 few : M.ah.length + M.un.length ≤ c
def b3Y : Exc := ⟨"NoStep", none⟩
def b3E : Exc := ⟨"NoLine", none⟩
section
variable {S : Sto} {n c : Nat} {M : DM} {J' : JobM} {ps' : List a1u}
variable {mr : Fn} {an : Exc → Str}
end
end BV
namespace BV
open PySem PySem.Spec PyProof.Rows L2
inductive LW
 | key
 | opn
 | strike
def LW.way : LW → Str
 | .key => "kept"
 | .opn => "open"
 | .strike => "struck"
theorem LW.ok (a : LW) : b56 a.way := by
 cases a
 ·exact .inl rfl
 ·exact .inr (.inl rfl)
 ·exact .inr (.inr rfl)
structure WsG (ws : List Str) : Prop where
 ok : b4M ws
 m190 : ∀ p ∈ ws, p.length ≤ 190
theorem WsG.wd {ws : List Str} (h : WsG ws) : c1H ws := ⟨h.ok.pos, fun p hp => Nat.le_trans (h.m190 p hp) (by decide), Nat.le_trans h.ok.few (by decide)⟩
inductive DeedM
 | line (a : LW) (ws : List Str)
 | text (ws : List Str)
 | mend (kt : Str) (k : Nat) (ws : List Str)
 | undo
 | redo
def DeedM.G : DeedM → Prop
 | .line _ ws => WsG ws
 | .text ws => WsG ws
 | .mend kt k ws => WsG ws ∧ c10 kt = true ∧ b8w [.str kt] = some (.val (.int (k : Int))) ∧ k ≤ 10000000
 | .undo => True
 | .redo => True
theorem LinesG.sub {J : JobM} {ps qs : List a1u} (h : LinesG J ps) (h2 : ∀ p ∈ qs, p ∈ ps) (hl : qs.length ≤ 500) : LinesG J qs := ⟨fun p hp => h.mem p (h2 p hp), fun p hp => h.way p (h2 p hp), hl⟩
theorem KeptG.few {p : b0E} (h : KeptG p) : p.2.length ≤ 400 := by
 obtain ⟨ss, hr⟩ := h.r
 exact (b4y hr).1
section
variable {M : DM} {c : Nat} {r : DeedM}
def DeedE (e : Exc) : Prop := ByE e ∨ e = b4t ∨ e = b2n ∨ e = b3E ∨ e = b3Y
theorem DeedE.said {e : Exc} (h : DeedE e) : e.cls ∈ b0q := by
 rcases h with h | rfl | rfl | rfl | rfl
 ·exact h.said
 all_goals decide
end
end BV
namespace BV
open PySem PySem.Spec PyProof.Rows L2
section
variable {S : Sto} {n c : Nat} {M : DM} {r : DeedM} {row w : Str} {ws : List Str} {v : DskV} {ρ : En}
end
end BV
namespace BV
open PySem PySem.Spec PyProof.Rows L2
section
variable {S : Sto} {n c : Nat} {M : DM} {r : DeedM} {row w kt : Str} {ws : List Str} {v : DskV} {ρ : En} {k : Nat}
end
end BV
namespace BV
open PySem PySem.Spec PyProof.Rows L2
section
variable {S : Sto} {n c : Nat} {M : DM} {r : DeedM} {row w kt : Str} {ws : List Str} {v : DskV} {ρ : En} {k : Nat} {mr : Fn} {an : Exc → Str}
end
end BV
namespace BV
open PySem PySem.Spec PyProof.Rows L2
section
variable {S : Sto} {n c : Nat} {M : DM} {r : DeedM} {row w kt : Str} {ws us : List Str} {v : DskV} {ρ : En} {k : Nat} {mr : Fn} {an : Exc → Str}
end
end BV
namespace BV
open PySem PySem.Spec PyProof.Rows L2
def c1d (k : Nat) (x : Str) : Prop := Lt k x ∧ 1 ≤ x.length
section
variable {S : Sto} {n m : Nat}
end
end BV
namespace BV
open PySem PySem.Spec PyProof.Rows L2
section
variable {S : Sto} {units : List Int} {jt wd c : D}
variable {rows : List (List d7)} {w h : Nat} {s l : Int}
end
end BV
namespace BV
open PySem PySem.Spec PyProof.Rows L2
theorem b7n {S S' : Sto} {n m : Nat} (h : lfS S = true) (x : Ext n S S') (b : HasBag S' n m) : lfS S' = true := by
 unfold lfS at h ⊢
 rw [List.all_eq_true] at h ⊢
 intro k hk
 obtain ⟨j, hj⟩ := List.getElem?_of_mem hk
 by_cases e : j = n
 ·subst e
  obtain ⟨a, c, e1, _⟩ := b
  rw [hj] at e1
  cases e1
  rfl
 ·rw [x.rest j e] at hj
  exact h k (List.mem_of_getElem? hj)
section
variable {S : Sto} {n m : Nat}
end
end BV
namespace BV
open PySem L2

section
variable {S : Sto}
end
end BV

namespace BV
open PySem L2

section
variable {S : Sto} {d : D}
end
end BV

namespace BV
open PySem L2

section
variable {S : Sto} {d : D}
end
end BV
namespace BV
open PySem PySem.Spec PyProof.Rows L2
structure PcOk (j : Nat) (x : Str) : Prop where
 free : 32 ∉ x.cps.toList
 ok : PyData.strOk x = true
 pos : 1 ≤ x.length
 most : x.length ≤ j
theorem PcOk.mono {i j : Nat} {x : Str} (h : PcOk i x) (hij : i ≤ j) : PcOk j x := ⟨h.free, h.ok, h.pos, Nat.le_trans h.most hij⟩
end BV
namespace BV
open PySem PySem.Spec PyProof.Rows L2
section
variable {S : Sto} {n c w h : Nat} {M : DM} {row : Str} {us : List Int} {rs : List (List d7)} {ws : List Str} {ρ : En}
end
end BV
namespace BV
open PySem PySem.Spec PyProof.Rows L2
section
variable {S : Sto} {n c : Nat} {M : DM}
end
structure DeskS (S : Sto) (M Q : DM) : Prop where
 t : S[0]? = some .tab
 d : S[1]? = some (.rcd false M.v)
 q : S[2]? = some (.rcd true Q.v)
 l : lfS (b1k S) = true
structure Far (S S' : Sto) : Prop where
 len : S'.length = S.length
 rest : ∀ j, 3 ≤ j → S'[j]? = S[j]?
theorem Far.refl {S : Sto} : Far S S := ⟨rfl, fun _ _ => rfl⟩
theorem Far.trans {S S1 S2 : Sto} (a : Far S S1) (b : Far S1 S2) : Far S S2 := ⟨b.len.trans a.len, fun j h => (b.rest j h).trans (a.rest j h)⟩
section
variable {S S' : Sto} {M Q M' : DM} {n m c : Nat} {row : Str} {r : DeedM}
theorem b4q (h : HasBag S n m) : HasBag (b1k S) n m := by
 obtain ⟨a, b, e, q⟩ := h
 exact ⟨a, b, b33 e, q⟩
theorem DeskS.ext (h : DeskS S M Q) (x : Ext n S S') (hn : 3 ≤ n) (b : HasBag S' n m) : DeskS S' M Q := by
 refine ⟨by rw [x.rest 0 (by omega)]; exact h.t, by rw [x.rest 1 (by omega)]; exact h.d, by rw [x.rest 2 (by omega)]; exact h.q, ?_⟩
 refine b7n (n := n) (m := m) h.l ⟨by rw [a6S, a6S]; exact x.len, fun j hj => ?_⟩ (b4q b)
 unfold b1k
 rw [List.getElem?_map, List.getElem?_map, x.rest j hj]
theorem DeskS.new (h : DeskS S M Q) {a b : Int} : DeskS (S ++ [.lst [.int a, .int b]]) M Q := by
 have h1 := (List.getElem?_eq_some_iff.mp h.q).1
 refine ⟨by rw [List.getElem?_append_left (by omega)]; exact h.t, by rw [List.getElem?_append_left (by omega)]; exact h.d, by rw [List.getElem?_append_left h1]; exact h.q, ?_⟩
 have : b1k (S ++ [.lst [.int a, .int b]]) = b1k S ++ [.lst [.int a, .int b]] := by unfold b1k; rw [List.map_append]; rfl
 rw [this]
 exact a9Y h.l
end
end BV
namespace BV
open PySem PySem.Spec PyProof.Rows L2
section
variable {S : Sto} {J : JobM} {said : Fn}
end
end BV
namespace BV
open PySem PySem.Spec PyProof.Rows L2
structure NmsG (M : List Str) : Prop where
 ne : M ≠ []
 nm : ∀ x ∈ M, IsName x
 few : M.length ≤ 1000
structure GW (p : Str) : Prop where
 free : 32 ∉ p.cps.toList
 ok : PyData.strOk p = true
 pos : 1 ≤ p.length
 most : p.length ≤ 190
theorem WsG.of {ws : List Str} (h : ∀ p ∈ ws, GW p) (hl : ws.length ≤ 100) : WsG ws := ⟨⟨fun p hp => (h p hp).free, fun p hp => (h p hp).ok, fun p hp => (h p hp).pos, fun p hp => Nat.le_trans (h p hp).most (by decide), hl⟩, fun p hp => (h p hp).most⟩
theorem GW.rep {x : Str} (h : IsName x) {k : Nat} (h1 : 1 ≤ k) (h2 : k ≤ 61) : GW (b6X x k) := by
 have hl : (b6X x k).length = x.length * k := b2i x k
 have hp := h.pos
 have hm := h.most
 have : 1 * 1 ≤ x.length * k := Nat.mul_le_mul hp h1
 have : x.length * k ≤ 3 * 61 := Nat.mul_le_mul hm h2
 have hc : ∀ c ∈ (b6X x k).cps.toList, 97 ≤ c ∧ c ≤ 122 := by
  intro c hc
  rw [b1U, List.mem_flatten] at hc
  obtain ⟨l, h3, h4⟩ := hc
  rw [(List.mem_replicate.mp h3).2] at h4
  exact h.all c h4
 exact ⟨fun z => by have := hc 32 z; omega, ok_cps.mpr fun c z => by have := hc c z; omega, by omega, by omega⟩
section
variable {S S1 S2 : Sto} {M Q M' : DM} {n m c : Nat} {row : Str} {r : DeedM}
end
section
variable {ns : List Int} {tl : En} {rest : SS}
end
end BV
namespace BV
open PySem PySem.Spec PyProof.Rows L2
theorem IsName.wd {x : Str} (h : IsName x) : c1d 12 x := ⟨⟨h.all, Nat.le_trans h.most (by decide)⟩, h.pos⟩
section
variable {S : Sto} {n m : Nat} {M : List Str}
end
end BV
namespace BV
open PySem PySem.Spec PyProof.Rows L2
theorem DMG.mono {c c' : Nat} {M : DM} (h : DMG c M) (hc : c ≤ c') : DMG c' M := ⟨h.now, h.ah, h.un, Nat.le_trans h.few hc⟩
section
variable {S : Sto} {ρ : En} {i j n m : Nat} {t : T} {xs : List D}
theorem P0 {q : Nat} {d : D} (h : (j8 1 q)[i]? = some d) : i < q ∧ d = .int ((1 + i : Nat) : Int) := by
 unfold j8 at h
 rw [List.getElem?_map] at h
 by_cases hi : i < q
 ·rw [List.getElem?_range hi] at h
  cases h
  exact ⟨hi, congrArg PyData.int (by omega)⟩
 ·rw [List.getElem?_eq_none (by rw [List.length_range]; omega)] at h
  cases h
theorem NmsG.at0 {M : List Str} (h : NmsG M) : ∃ x, x ∈ M ∧ IsName x ∧ atI (M.map PyData.str) 0 = some (.str x) := by
 cases M with
 | nil => exact absurd rfl h.ne
 | cons a b =>
  refine ⟨a, List.mem_cons_self .., h.nm a (List.mem_cons_self ..), ?_⟩
  have := u9 (xs := (a :: b).map PyData.str) (i := 0) (v := .str a) rfl
  exact this
theorem NmsG.sl1 {M : List Str} {x0 : Str} (hN : NmsG M) (at0 : atI (M.map PyData.str) 0 = some (.str x0)) : gSl (.list (M.map PyData.str)) none (some 1) = some (.own [.str x0]) := by
 have hl1 : 0 < M.length := List.length_pos_iff.mpr hN.ne
 have := a5W (xs := M.map PyData.str) (f := 1)
 rw [List.length_map, Nat.min_eq_left (by omega)] at this
 rw [K4]
 refine congrArg some (congrArg T.own (this.trans ?_))
 cases q : M with
 | nil => exact absurd q hN.ne
 | cons a b =>
  rw [q] at at0
  have a1 : atI ((a :: b).map PyData.str) 0 = some (.str a) := by
   have := u9 (xs := (a :: b).map PyData.str) (i := 0) (v := .str a) rfl
   exact this
  rw [a1] at at0
  cases at0
  rfl
theorem DeskS.len {M Q : DM} (h : DeskS S M Q) : 3 ≤ S.length := (List.getElem?_eq_some_iff.mp h.q).1
end
end BV
namespace BV
open PySem L2

theorem P9 {α β : Type} {b : BT1} {body : SS} {S : Sto} (u : α → D) (f : β → α → β) (P : β → En → Prop) : ∀ (xs : List α) (a : β) (ρ : En), P a ρ → (∀ x ∈ xs, ∀ a ρ, P a ρ → ∃ ρ1, b (u x) ρ = some ρ1 ∧ ∃ ρ2, body ρ1 S = .nx ρ2 S ∧ P (f a x) ρ2) →
  ∃ ρ', a7J b body (xs.map u) ρ S = .nx ρ' S ∧ P (xs.foldl f a) ρ'
 | [], a, ρ, h, _ => ⟨ρ, rfl, h⟩
 | x :: xs, a, ρ, h, st => by
  obtain ⟨ρ1, e1, ρ2, e2, h2⟩ := st x (List.mem_cons_self ..) a ρ h
  obtain ⟨ρ', e3, h3⟩ := P9 u f P xs (f a x) ρ2 h2 fun y hy => st y (List.mem_cons_of_mem _ hy)
  refine ⟨ρ', ?_, h3⟩
  rw [List.map_cons]
  unfold a7J
  rw [e1]
  simp only [e2]
  exact e3
structure LSt where
 c : Int
 ah : Option (Int × Int)
 m : Int
 l : Int
 deriving DecidableEq
def ahD : Option (Int × Int) → D
 | none => .none
 | some p => c7 p
def a6w (e : LSt) : D := .tuple [.int e.c, ahD e.ah, .int e.m, .int e.l]
abbrev LDc := List ((Int × Int) × LSt)
def kvL (L : LDc) : List (List Int × D) := L.map fun p => (A7 p.1, a6w p.2)
def C8 (L : LDc) (k : Int × Int) : Option LSt := (L.find? fun p => decide (p.1 = k)).map (·.2)
def a9k (L : LDc) (k : Int × Int) (v : LSt) : LDc := if L.any (fun p => decide (p.1 = k)) then L.map (fun p => if p.1 = k then (p.1, v) else p) else L ++ [(k, v)]
theorem pairL_iff {p q : Int × Int} : A7 p = A7 q ↔ p = q := by
 constructor
 ·intro h
  simp only [A7, List.cons.injEq, and_true] at h
  exact Prod.ext h.1 h.2
 ·intro h; rw [h]
theorem a64 (L : LDc) (k : Int × Int) : b5d (kvL L) (A7 k) = (C8 L k).map a6w := by
 unfold b5d C8 kvL
 rw [List.find?_map, Option.map_map, Option.map_map]
 have : ((fun p : List Int × D => decide (p.1 = A7 k)) ∘ fun p : (Int × Int) × LSt => (A7 p.1, a6w p.2)) = fun p => decide (p.1 = k) := by
  funext p
  simp only [Function.comp, pairL_iff]
 rw [this]
 rfl
theorem b2v (L : LDc) (k : Int × Int) (v : LSt) : b53 (kvL L) (A7 k) (a6w v) = kvL (a9k L k v) := by
 unfold b53 a9k
 have h1 : (kvL L).any (fun p => decide (p.1 = A7 k)) = L.any fun p => decide (p.1 = k) := by
  unfold kvL
  rw [List.any_map]
  congr 1
  funext p
  simp only [Function.comp, pairL_iff]
 rw [h1]
 split
 ·unfold kvL
  rw [List.map_map, List.map_map]
  refine List.map_congr_left fun p _ => ?_
  simp only [Function.comp]
  by_cases h : p.1 = k
  ·rw [if_pos h, if_pos (by rw [h])]
  ·rw [if_neg h, if_neg (fun z => h (pairL_iff.mp z))]
 ·unfold kvL
  rw [List.map_append]
  rfl
theorem L6 {L : LDc} {k : Int × Int} {e : LSt} (h : C8 L k = some e) : (k, e) ∈ L := by
 unfold C8 at h
 cases q : L.find? fun p => decide (p.1 = k) with
 | none => rw [q] at h; cases h
 | some p =>
  rw [q] at h
  cases h
  have h1 := List.find?_some q
  have h2 : p.1 = k := of_decide_eq_true h1
  rw [← h2]
  exact List.mem_of_find?_eq_some q
theorem a25 {L : LDc} {k : Int × Int} (h : k ∈ L.map (·.1)) : ∃ e, C8 L k = some e := by
 obtain ⟨p, hp, rfl⟩ := List.mem_map.mp h
 unfold C8
 cases q : L.find? fun r => decide (r.1 = p.1) with
 | some r => exact ⟨r.2, rfl⟩
 | none =>
  have := List.find?_eq_none.mp q p hp
  simp at this
theorem Z5 (L : LDc) (k k' : Int × Int) (v : LSt) : C8 (a9k L k v) k' = if k' = k then some v else C8 L k' := by
 unfold a9k
 by_cases ha : L.any (fun p => decide (p.1 = k)) = true
 ·rw [if_pos ha]
  unfold C8
  rw [List.find?_map]
  have e : ((fun p : (Int × Int) × LSt => decide (p.1 = k')) ∘ fun p => if p.1 = k then (p.1, v) else p) = fun p => decide (p.1 = k') := by
   funext p
   simp only [Function.comp]
   split <;> rfl
  rw [e]
  cases q : L.find? fun p => decide (p.1 = k') with
  | none =>
   rw [if_neg]
   ·rfl
   ·intro hk
    subst hk
    rw [List.any_eq_true] at ha
    obtain ⟨p, hp, e⟩ := ha
    exact List.find?_eq_none.mp q p hp e
  | some p =>
   have hp0 := List.find?_some q
   have hp : p.1 = k' := of_decide_eq_true hp0
   simp only [Option.map_some]
   by_cases hk : k' = k
   ·rw [if_pos hk, if_pos (hp.trans hk)]
   ·rw [if_neg hk, if_neg (fun z => hk (hp.symm.trans z))]
 ·rw [if_neg ha]
  unfold C8
  rw [List.find?_append]
  by_cases hk : k' = k
  ·subst hk
   have : L.find? (fun p => decide (p.1 = k')) = none := by
    rw [List.find?_eq_none]
    intro p hp e
    exact ha (List.any_eq_true.mpr ⟨p, hp, e⟩)
   rw [this, if_pos rfl]
   simp
  ·rw [if_neg hk]
   have : List.find? (fun p : (Int × Int) × LSt => decide (p.1 = k')) [(k, v)] = none := by simp [Ne.symm hk]
   rw [this, Option.or_none]
theorem a2u (L : LDc) (k : Int × Int) (v : LSt) : (a9k L k v).map (·.1) = if k ∈ L.map (·.1) then L.map (·.1) else L.map (·.1) ++ [k] := by
 unfold a9k
 have : L.any (fun p => decide (p.1 = k)) = decide (k ∈ L.map (·.1)) := by
  rw [Bool.eq_iff_iff, List.any_eq_true, decide_eq_true_eq, List.mem_map]
  constructor
  ·rintro ⟨p, hp, h⟩; exact ⟨p, hp, of_decide_eq_true h⟩
  ·rintro ⟨p, hp, h⟩; exact ⟨p, hp, decide_eq_true h⟩
 rw [this]
 by_cases h : k ∈ L.map (·.1)
 ·rw [if_pos (decide_eq_true h), if_pos h, List.map_map]
  refine List.map_congr_left fun p _ => ?_
  simp only [Function.comp]
  split <;> rfl
 ·rw [if_neg (by simpa using h), if_neg h, List.map_append]
  rfl
def csD (cs : List Nat) : D := .list (cs.map fun (n : Nat) => PyData.int (n : Int))
def ct (cs : List Nat) (u : Nat) : Int := ((cs[u]?.getD 0 : Nat) : Int)
theorem E1 (cs : List Nat) (u : Nat) : 0 ≤ ct cs u := by unfold ct; omega
theorem a94 {cs : List Nat} {u : Nat} (h : u < cs.length) : gIx (csD cs) (.int (u : Int)) = some (.val (.int (ct cs u))) := by
 unfold csD ct
 rw [C2, u9 (v := .int ((cs[u] : Nat) : Int)) (by rw [List.getElem?_map, List.getElem?_eq_getElem h]; rfl), List.getElem?_eq_getElem h]
 rfl
def wt (s : Int) : Int := if s < 0 then -s else 0
theorem b0Q (s : Int) : 0 ≤ wt s := by unfold wt; split <;> omega
def onP (w cu cn s m l : Int) : Option (Int × Int) := if w * m - wt s < 0 then none else some (min (w * m - wt s - (cu - l)) cn, wt s + l)
def onD : Option (Int × Int) → D
 | none => .none
 | some p => c7 p
theorem a4G {S : Sto} {w u : Nat} {cs : List Nat} {s m l : Int} (hu : u + 1 < cs.length) (hw : w ≤ 100) (hm0 : 0 ≤ m) (hm : m ≤ 100) :
  G1 [.val (.int (w : Int)), .val (csD cs), .val (.int (u : Int)), .val (.int s), .val (.int m), .val (.int l)] S = .ok (.val (onD (onP (w : Int) (ct cs u) (ct cs (u + 1)) s m l))) S := by
 have mu : C5 (.int (w : Int)) (.int m) = some (.val (.int ((w : Int) * m))) := a06 (V8 (by omega) (by omega)) (V8 (by omega) (by omega))
 have i1 := a94 (cs := cs) (u := u) (by omega)
 have i2 := a94 (cs := cs) (u := u + 1) (by omega)
 have c0 := E1 cs (u + 1)
 have ew : (u : Int) + 1 = ((u + 1 : Nat) : Int) := by omega
 unfold G1
 refine F7 ?_
 unfold a1w
 generalize csD cs = C at *
 refine b9 (by simp; exact ⟨rfl, rfl⟩) ?_
 refine b9 (by simp [mu]; exact ⟨rfl, rfl⟩) ?_
 refine b9 (by simp [i1]; exact ⟨rfl, rfl⟩) ?_
 rw [show (if s < 0 then -s else 0) = wt s from rfl]
 unfold onP
 by_cases h1 : (w : Int) * m - wt s < 0
 ·rw [if_pos h1]
  simp [h1, onD]
 ·rw [if_neg h1]
  refine b9 (by simp [h1]; exact ⟨rfl, rfl⟩) ?_
  by_cases h2 : (w : Int) * m - wt s < ct cs u - l
  ·have e : min ((w : Int) * m - wt s - (ct cs u - l)) (ct cs (u + 1)) = (w : Int) * m - wt s - (ct cs u - l) := by omega
   rw [e]
   simp [h2, onD, c7]
  ·refine b9 (by simp [h2]; exact ⟨rfl, rfl⟩) ?_
   have e : (if ct cs (u + 1) < (w : Int) * m - wt s - (ct cs u - l) then ct cs (u + 1) else (w : Int) * m - wt s - (ct cs u - l)) = min ((w : Int) * m - wt s - (ct cs u - l)) (ct cs (u + 1)) := by
    split <;> omega
   simp only [← e]
   rw [← ew] at i2
   simp [i2, onD, c7]
def L3 (w cu cn s : Int) : Int := (wt s + cu + cn + w - 1) / w
theorem b0p {S : Sto} {w u : Nat} {cs : List Nat} {s : Int} (hu : u + 1 < cs.length) (hw : w ≤ 100) (hw1 : 1 ≤ w) :
  w7 [.val (.int (w : Int)), .val (csD cs), .val (.int (u : Int)), .val (.int s)] S = .ok (.val (.int (L3 (w : Int) (ct cs u) (ct cs (u + 1)) s))) S := by
 have i1 := a94 (cs := cs) (u := u) (by omega)
 have i2 := a94 (cs := cs) (u := u + 1) (by omega)
 rw [show ((u + 1 : Nat) : Int) = (u : Int) + 1 by omega] at i2
 have dv : b2M (.int (wt s + ct cs u + ct cs (u + 1) + (w : Int) - 1)) (.int (w : Int)) = some (.val (.int ((wt s + ct cs u + ct cs (u + 1) + (w : Int) - 1) / (w : Int)))) := a42 (by omega) (by
  have : (w : Int).natAbs.log2 ≤ 6 := K3 (by omega)
  omega)
 unfold w7
 refine F7 ?_
 unfold O9 L3
 generalize csD cs = C at *
 refine b9 (by simp [i1, i2]; exact ⟨rfl, rfl⟩) ?_
 rw [show (if s < 0 then -s else 0) = wt s from rfl]
 simp [dv]
end BV
namespace BV
open PySem L2
section
variable {S : Sto} {w h : Nat}
end
section
variable {S : Sto} {w h : Nat} {units : List Int} {rows : List (List d7)}
end
end BV
namespace BV
open PySem L2
section
variable {w h : Nat} {rows : List (List d7)} {ds : List D}
end
end BV
namespace BV
open PySem L2
section
variable {S : Sto} {w h : Nat} {units : List Int} {rows : List (List d7)} {ds : List D} {s l f m : Int}
theorem b3R {α : Type} (D0 : List α) (x : α) : ixN (D0 ++ [x]).length (-1) = some D0.length := by
 unfold L2.ixN
 rw [if_neg (by decide), if_pos (by simp; omega)]
 simp
 omega
end
end BV
namespace BV
open PySem PySem.Spec PyProof.Rows L2
def IsL (t : T) (ws : List Str) : Prop := t = .own (ws.map PyData.str) ∨ t = .val (.list (ws.map PyData.str))
theorem IsL.d {t : T} {ws : List Str} (h : IsL t ws) : asD t = some (.list (ws.map PyData.str)) := by
 rcases h with rfl | rfl <;> rfl
theorem IsL.rof {t : T} {ws : List Str} (h : IsL t ws) : a5M t = false := by
 rcases h with rfl | rfl <;> rfl
section
variable {S : Sto} {ρ : En} {i n m : Nat} {M : List Str}
end
end BV
namespace BV
open PySem PySem.Spec PyProof.Rows L2
section
variable {S : Sto} {M M' : DM} {n c : Nat} {row : Str} {r : DeedM} {t : Str} {J' : JobM} {ps' : List a1u}
end
end BV
namespace BV
open PySem PySem.Spec PyProof.Rows L2
section
variable {S : Sto} {M : DM} {n : Nat}
end
end BV
namespace BV
open PySem PySem.Spec PyProof.Rows L2
section
variable {J : JobM} {ps : List a1u} {S : Sto} {n : Nat} {M : DM}
end
end BV
namespace BV
open PySem PySem.Spec PyProof.Rows L2
theorem a4C {n : Nat} (h : n ≤ 100000) : a0l [.int 1, .int ((n : Int) + 1)] = some (j8 1 n) := by
 have h1 : ((n : Int) + 1 - 1).toNat = n := by omega
 show (if ((n : Int) + 1 - 1).toNat ≤ sizeLine ∧ w3 1 = true ∧ w3 ((n : Int) + 1) = true then some (j8 1 ((n : Int) + 1 - 1).toNat) else none) = _
 rw [h1, if_pos ⟨p6 h, by decide, J5 (by omega) (by omega)⟩]
section
variable {units : List Int} {rows : List (List d7)} {s l f m : Int} {xs : List Str} {S : Sto} {w h : Nat}
end
section
variable {J : JobM} {M : DM} {S : Sto} {n : Nat} {ws xs : List Str} {ρ : En} {i : Nat}
end
end BV
namespace BV
open PySem L2

structure Box (h N : Int) (k : Int × Int) : Prop where
 r0 : 0 ≤ k.1
 r1 : k.1 ≤ h
 s0 : -N ≤ k.2
 s1 : k.2 ≤ N
structure LOk (h N : Int) (L : LDc) : Prop where
 nd : (L.map (·.1)).Nodup
 box : ∀ k ∈ L.map (·.1), Box h N k
def boxL : List (Int × Int) := (List.range 16).flatMap fun (r : Nat) => (List.range 121).map fun (s : Nat) => ((r : Int), (s : Int) - 60)
theorem b1M : boxL.length = 1936 := by decide +kernel
theorem b1o {h N : Int} {k : Int × Int} (hh : h ≤ 15) (hN : N ≤ 60) (b : Box h N k) : k ∈ boxL := by
 obtain ⟨b1, b2, b3, b4⟩ := b
 unfold boxL
 rw [List.mem_flatMap]
 refine ⟨k.1.toNat, List.mem_range.mpr (by omega), List.mem_map.mpr ⟨(k.2 + 60).toNat, List.mem_range.mpr (by omega), ?_⟩⟩
 exact Prod.ext (by show ((k.1.toNat : Nat) : Int) = k.1; omega) (by show (((k.2 + 60).toNat : Nat) : Int) - 60 = k.2; omega)
theorem LOk.len {h N : Int} {L : LDc} (l : LOk h N L) (hh : h ≤ 15) (hN : N ≤ 60) : L.length ≤ 1936 := by
 have := a13 l.nd (m := boxL) fun k hk => b1o hh hN (l.box k hk)
 rw [b1M, List.length_map] at this
 exact this
theorem LOk.nil {h N : Int} : LOk h N [] := ⟨List.nodup_nil, fun _ h => nomatch h⟩
theorem LOk.put {h N : Int} {L : LDc} (l : LOk h N L) {k : Int × Int} {v : LSt} (b : Box h N k) : LOk h N (a9k L k v) := by
 constructor
 ·rw [a2u]
  split
  ·exact l.nd
  ·rename_i hk
   rw [List.nodup_append]
   exact ⟨l.nd, by simp, fun a ha b' hb => by rw [List.mem_singleton.mp hb]; exact fun z => hk (z ▸ ha)⟩
 ·intro k' hk'
  rw [a2u] at hk'
  split at hk'
  ·exact l.box k' hk'
  ·rw [List.mem_append, List.mem_singleton] at hk'
   rcases hk' with h | rfl
   ·exact l.box k' h
   ·exact b
def a3r (o : Option LSt) (c : Int) : Bool := match o with
 | none => true
 | some e => decide (c < e.c)
def b1g (w cu cn : Int) (prev : LDc) (st : Int × Int) (L : LDc) (m l : Int) : LDc := match onP w cu cn st.2 m l with
 | none => L
 | some p => if a3r (C8 L (st.1 + m, p.1)) ((((C8 prev st).map (·.c)).getD 0) + p.2) then a9k L (st.1 + m, p.1) ⟨(((C8 prev st).map (·.c)).getD 0) + p.2, some st, m, l⟩ else L
def LD (L : LDc) : D := .dict (mkD true (kvT (kvL L)))
theorem a1t {L : LDc} {k : Int × Int} {e : LSt} (h : C8 L k = some e) : a9t (LD L) (c7 k) = some (.val (a6w e)) := by
 have h1 := a7z (kvL L) (A7 k)
 rw [a64, h] at h1
 have hu : (unD (mkD true (kvT (kvL L)))).1 = true := rfl
 show (if (unD (mkD true (kvT (kvL L)))).1 = true then (a7b (mkD true (kvT (kvL L))) (c7 k)).bind (fun o => o.map T.val) else none) = _
 rw [if_pos hu, show c7 k = .tuple ((A7 k).map PyData.int) from rfl, h1]
 rfl
theorem b7w {neg : Bool} {L : LDc} {k : Int × Int} : gIn neg (c7 k) (LD L) = some (.val (.bool (if neg then !(C8 L k).isSome else (C8 L k).isSome))) := by
 have h1 := a7z (kvL L) (A7 k)
 rw [a64] at h1
 show ((a7b (mkD true (kvT (kvL L))) (c7 k)).map fun o => T.val (.bool (if neg then !o.isSome else o.isSome))) = _
 rw [show c7 k = .tuple ((A7 k).map PyData.int) from rfl, h1, Option.map_some, Option.isSome_map]
theorem b2V {L : LDc} {k : Int × Int} {v : LSt} (h : L.length < 100000) : a37 true (kvT (kvL L)) (c7 k) (a6w v) = some (kvT (kvL (a9k L k v))) := by
 have := b1B (l := kvL L) (k := A7 k) (v := a6w v) (by unfold kvL; rw [List.length_map, sizeLine_eq]; omega)
 rw [b2v] at this
 exact this
theorem a9Z {L : LDc} (h : L.length ≤ 10000) : X2 [LD L] = some (.own ((a9J (L.map (·.1))).map c7)) := by
 have hp : J3 (kvT (kvL L)) = some (L.map (·.1)) := by
  clear h
  induction L with
  | nil => rfl
  | cons p L ih =>
   show (J3 (kvT (kvL L))).map _ = _
   rw [ih]
   rfl
 show (if (unD (mkD true (kvT (kvL L)))).1 = true then (match J3 (unD (mkD true (kvT (kvL L)))).2 with
  | some ps => if ps.length ≤ 10000 then some (T.own ((a9J ps).map c7)) else none
  | none => none) else none) = _
 have e1 : (unD (mkD true (kvT (kvL L)))) = (true, kvT (kvL L)) := rfl
 rw [e1, if_pos rfl]
 simp only
 rw [hp]
 simp only
 rw [if_pos (by rw [List.length_map]; exact h)]
theorem a5E {A : List D} {x : D} : gIx (.list (A ++ [x])) (.int (-1)) = some (.val x) := by
 rw [C2]
 unfold L2.atI
 rw [b3R]
 simp
def a1J (w h : Nat) (cs : List Nat) (A : List LDc) (u : Nat) (f : Option T) (y7 y8 y9 y10 y11 y12 y13 y14 : Option T) : En :=
 [some (.val (c7 ((w : Int), (h : Int)))), some (.val (csD cs)), some (.val (.int (w : Int))), some (.val (.int (h : Int))), some (.own (A.map LD)), some (.val (.int (u : Int))), f, y7, y8, y9, y10, y11, y12, y13, y14]
def ldT (L : LDc) : T := .ownd true (kvT (kvL L))
section
variable {S : Sto} {w h u : Nat} {cs : List Nat} {A : List LDc} {prev : LDc} {N : Int}
theorem b3O {cu cn s m l a b : Int} {w : Int} (e : onP w cu cn s m l = some (a, b)) (h0 : 0 ≤ cu) (h1 : cu ≤ N) (h2 : 0 ≤ cn) (h3 : cn ≤ N) (l0 : 0 ≤ l) : -N ≤ a ∧ a ≤ N := by
 unfold onP at e
 split at e
 ·cases e
 ·injection e with e
  injection e with e1 e2
  omega
theorem b1q (hu : u + 1 < cs.length) (hw : w ≤ 100) {st : Int × Int} {e0 : LSt} (hp : C8 prev st = some e0) {m l : Nat} (hm : m ≤ 100) {L : LDc} (hl : L.length < 100000) {y12 y13 y14 : Option T} :
  ∃ z12 z13 z14, R0 (a1J w h cs (A ++ [prev]) u (some (ldT L)) (some (.val (c7 st))) (some (.val (.int st.1))) (some (.val (.int st.2))) (some (.val (.int (m : Int)))) (some (.val (.int (l : Int)))) y12 y13 y14) S =
   .nx (a1J w h cs (A ++ [prev]) u (some (ldT (b1g (w : Int) (ct cs u) (ct cs (u + 1)) prev st L (m : Int) (l : Int)))) (some (.val (c7 st))) (some (.val (.int st.1))) (some (.val (.int st.2))) (some (.val (.int (m : Int)))) (some (.val (.int (l : Int)))) z12 z13 z14) S := by
 have on := a4G (S := S) (s := st.2) (l := (l : Int)) hu hw (by omega : (0 : Int) ≤ (m : Int)) (by omega)
 have pr : gIx (.list ((A ++ [prev]).map LD)) (.int (-1)) = some (.val (LD prev)) := by rw [List.map_append]; exact a5E
 have tx := a1t hp
 unfold R0 b1g a1J ldT
 rw [hp]
 simp only [Option.map_some, Option.getD_some]
 generalize (A ++ [prev]).map LD = AD at *
 cases eo : onP (w : Int) (ct cs u) (ct cs (u + 1)) st.2 (m : Int) (l : Int) with
 | none =>
  rw [eo] at on
  refine ⟨some (.val .none), y13, y14, ?_⟩
  refine b9 (by simp [on]; exact ⟨rfl, rfl⟩) ?_
  simp [onD]
 | some p =>
  rw [eo] at on
  have e1 : a6w e0 = .tuple [.int e0.c, ahD e0.ah, .int e0.m, .int e0.l] := rfl
  have i0 : gIx (a6w e0) (.int 0) = some (.val (.int e0.c)) := by rw [e1]; rfl
  have q0 : gIx (c7 p) (.int 0) = some (.val (.int p.1)) := rfl
  have q1 : gIx (c7 p) (.int 1) = some (.val (.int p.2)) := rfl
  have k0 : PyData.tuple [.int (st.1 + (m : Int)), .int p.1] = c7 (st.1 + (m : Int), p.1) := rfl
  have nn : isNone (c7 p) = false := rfl
  have gi := b7w (neg := true) (L := L) (k := (st.1 + (m : Int), p.1))
  have ds := b2V (L := L) (k := (st.1 + (m : Int), p.1)) (v := ⟨e0.c + p.2, some st, (m : Int), (l : Int)⟩) hl
  have v0 : PyData.tuple [.int (e0.c + p.2), c7 st, .int (m : Int), .int (l : Int)] = a6w ⟨e0.c + p.2, some st, (m : Int), (l : Int)⟩ := rfl
  have dl : PyData.dict (mkD true (kvT (kvL L))) = LD L := rfl
  refine ⟨some (.val (c7 p)), some (.val (c7 (st.1 + (m : Int), p.1))), some (.val (.int (e0.c + p.2))), ?_⟩
  refine b9 (by simp [on]; exact ⟨rfl, rfl⟩) ?_
  refine a7d (S1 := S) (by simp [nn, onD]) ?_
  refine b9 (by simp [onD, q0, k0]; exact ⟨rfl, rfl⟩) ?_
  refine b9 (by simp [onD, pr, tx, i0, q1]; exact ⟨rfl, rfl⟩) ?_
  have sc : (bOr (cB (d9 (gIn true) (b7 13) (b7 6))) (cB (d9 gLt (b7 14) (d9 gIx (d9 a9t (b7 6) (b7 13)) (cC (.int 0))))))
   [some (.val (c7 ((w : Int), (h : Int)))), some (.val (csD cs)), some (.val (.int (w : Int))), some (.val (.int (h : Int))), some (.own AD), some (.val (.int (u : Int))), some (.ownd true (kvT (kvL L))), some (.val (c7 st)), some (.val (.int st.1)), some (.val (.int st.2)), some (.val (.int (m : Int))), some (.val (.int (l : Int))), some (.val (c7 p)), some (.val (c7 (st.1 + (m : Int), p.1))), some (.val (.int (e0.c + p.2)))] S = .ok (a3r (C8 L (st.1 + (m : Int), p.1)) (e0.c + p.2)) S := by
   cases eg : C8 L (st.1 + (m : Int), p.1) with
   | none =>
    rw [eg] at gi
    simp [dl, gi, a3r]
   | some e =>
    rw [eg] at gi
    have tl := a1t eg
    have il : gIx (a6w e) (.int 0) = some (.val (.int e.c)) := rfl
    simp [dl, gi, a3r, tl, il]
  cases hb : a3r (C8 L (st.1 + (m : Int), p.1)) (e0.c + p.2) with
  | false =>
   rw [hb] at sc
   refine a2z sc ?_
   simp [hb]
  | true =>
   rw [hb] at sc
   refine a7d sc ?_
   simp [hb, v0, ds]
def a54 (cu s : Int) : Nat := (min cu (max 0 s)).toNat + 1
def a20 (w h cu cn : Int) (st : Int × Int) : Nat := (min (h - st.1) (L3 w cu cn st.2)).toNat + 1
def V3 (w cu cn : Int) (prev : LDc) (st : Int × Int) (L : LDc) (m : Nat) : LDc := (List.range (a54 cu st.2)).foldl (fun L (l : Nat) => b1g w cu cn prev st L (m : Int) (l : Int)) L
def V5 (w h cu cn : Int) (prev : LDc) (L : LDc) (st : Int × Int) : LDc := (List.range (a20 w h cu cn st)).foldl (V3 w cu cn prev st) L
def I8 (w h cu cn : Int) (prev : LDc) : LDc := (a9J (prev.map (·.1))).foldl (V5 w h cu cn prev) []
theorem b4j {w h cu cn : Int} (h0 : 0 ≤ cu) (h1 : cu ≤ N) (h2 : 0 ≤ cn) (h3 : cn ≤ N) {st : Int × Int} (b : Box h N st) {m l : Int} (m0 : 0 ≤ m) (hm : st.1 + m ≤ h) (l0 : 0 ≤ l) {L : LDc} (k : LOk h N L) : LOk h N (b1g w cu cn prev st L m l) := by
 unfold b1g
 split
 ·exact k
 ·rename_i p e
  obtain ⟨e1, e2⟩ := b3O (a := p.1) (b := p.2) e h0 h1 h2 h3 l0
  have r0 := b.r0
  split
  ·exact k.put ⟨by show 0 ≤ st.1 + m; omega, hm, e1, e2⟩
  ·exact k
theorem b0b {n : Nat} (hn : n ≤ 100000) {x : Int} (e : x = (n : Int)) : Q4 [.int x] = some ((List.range n).map fun (i : Nat) => PyData.int (i : Int)) := by
 rw [e, a0o (p6 hn), a4B]
theorem b0A (hu : u + 1 < cs.length) (hw : w ≤ 100) (hh : h ≤ 15) (hN : N ≤ 60) (hcs : ∀ u, ct cs u ≤ N) {st : Int × Int} (bx : Box (h : Int) N st) {e0 : LSt} (hp : C8 prev st = some e0) {m : Nat} (hm : st.1 + (m : Int) ≤ (h : Int)) {L : LDc} (k : LOk (h : Int) N L) {y11 y12 y13 y14 : Option T} :
  ∃ z11 z12 z13 z14, Q3 (a1J w h cs (A ++ [prev]) u (some (ldT L)) (some (.val (c7 st))) (some (.val (.int st.1))) (some (.val (.int st.2))) (some (.val (.int (m : Int)))) y11 y12 y13 y14) S =
   .nx (a1J w h cs (A ++ [prev]) u (some (ldT (V3 (w : Int) (ct cs u) (ct cs (u + 1)) prev st L m))) (some (.val (c7 st))) (some (.val (.int st.1))) (some (.val (.int st.2))) (some (.val (.int (m : Int)))) z11 z12 z13 z14) S ∧ LOk (h : Int) N (V3 (w : Int) (ct cs u) (ct cs (u + 1)) prev st L m) := by
 have hm1 : m ≤ 15 := by have := bx.r0; omega
 have cu0 := E1 cs u
 have cu1 := hcs u
 have i1 := a94 (cs := cs) (u := u) (by omega)
 obtain ⟨ρ', e, kk, z11, z12, z13, z14, rfl⟩ := P9 (b := f9 11) (body := R0) (S := S) (fun (i : Nat) => PyData.int (i : Int)) (fun L (l : Nat) => b1g (w : Int) (ct cs u) (ct cs (u + 1)) prev st L (m : Int) (l : Int))
  (fun L ρ => LOk (h : Int) N L ∧ ∃ y11 y12 y13 y14, ρ = a1J w h cs (A ++ [prev]) u (some (ldT L)) (some (.val (c7 st))) (some (.val (.int st.1))) (some (.val (.int st.2))) (some (.val (.int (m : Int)))) y11 y12 y13 y14)
  (List.range (a54 (ct cs u) st.2)) L _ ⟨k, y11, y12, y13, y14, rfl⟩ (by
   rintro l hl L' ρ ⟨k', y11, y12, y13, y14, rfl⟩
   obtain ⟨z12, z13, z14, e⟩ := b1q (S := S) (w := w) (h := h) (A := A) hu hw hp (m := m) (l := l) (by omega) (L := L') (by have := k'.len (by omega) hN; omega) (y12 := y12) (y13 := y13) (y14 := y14)
   exact ⟨_, rfl, _, e, b4j cu0 cu1 (E1 cs _) (hcs _) bx (by omega) hm (by omega) k', _, z12, z13, z14, rfl⟩)
 refine ⟨z11, z12, z13, z14, ?_, kk⟩
 have mx : (if st.2 > 0 then st.2 else 0) = max 0 st.2 := by split <;> omega
 have gr : Q4 [.int ((if (if st.2 > 0 then st.2 else 0) < ct cs u then (if st.2 > 0 then st.2 else 0) else ct cs u) + 1)] = some ((List.range (a54 (ct cs u) st.2)).map fun (i : Nat) => PyData.int (i : Int)) := by
  refine b0b (by unfold a54; omega) ?_
  rw [mx]
  unfold a54
  split <;> omega
 unfold Q3 V3
 rw [← e]
 unfold a1J at *
 generalize csD cs = C at *
 generalize (A ++ [prev]).map LD = AD at *
 simp [i1, gr]
theorem b0i (hu : u + 1 < cs.length) (hw : w ≤ 100) (hw1 : 1 ≤ w) (hh : h ≤ 15) (hN : N ≤ 60) (hcs : ∀ u, ct cs u ≤ N) {st : Int × Int} (bx : Box (h : Int) N st) {e0 : LSt} (hp : C8 prev st = some e0) {L : LDc} (k : LOk (h : Int) N L) {y8 y9 y10 y11 y12 y13 y14 : Option T} :
  ∃ z8 z9 z10 z11 z12 z13 z14, Q8 (a1J w h cs (A ++ [prev]) u (some (ldT L)) (some (.val (c7 st))) y8 y9 y10 y11 y12 y13 y14) S =
   .nx (a1J w h cs (A ++ [prev]) u (some (ldT (V5 (w : Int) (h : Int) (ct cs u) (ct cs (u + 1)) prev L st))) (some (.val (c7 st))) z8 z9 z10 z11 z12 z13 z14) S ∧ LOk (h : Int) N (V5 (w : Int) (h : Int) (ct cs u) (ct cs (u + 1)) prev L st) := by
 have cu0 := E1 cs u
 have cu1 := hcs u
 have cn0 := E1 cs (u + 1)
 have cn1 := hcs (u + 1)
 have ms := b0p (S := S) (s := st.2) hu hw hw1
 have mp0 : 0 ≤ L3 (w : Int) (ct cs u) (ct cs (u + 1)) st.2 := by
  unfold L3
  have := b0Q st.2
  exact Int.ediv_nonneg (by omega) (by omega)
 have b0 := bx.r0
 have b1 := bx.r1
 obtain ⟨ρ', e, kk, z10, z11, z12, z13, z14, rfl⟩ := P9 (b := f9 10) (body := Q3) (S := S) (fun (i : Nat) => PyData.int (i : Int)) (V3 (w : Int) (ct cs u) (ct cs (u + 1)) prev st)
  (fun L ρ => LOk (h : Int) N L ∧ ∃ y10 y11 y12 y13 y14, ρ = a1J w h cs (A ++ [prev]) u (some (ldT L)) (some (.val (c7 st))) (some (.val (.int st.1))) (some (.val (.int st.2))) y10 y11 y12 y13 y14)
  (List.range (a20 (w : Int) (h : Int) (ct cs u) (ct cs (u + 1)) st)) L _ ⟨k, y10, y11, y12, y13, y14, rfl⟩ (by
   rintro m hm L' ρ ⟨k', y10, y11, y12, y13, y14, rfl⟩
   rw [List.mem_range] at hm
   obtain ⟨z11, z12, z13, z14, e, k2⟩ := b0A (S := S) (A := A) hu hw hh hN hcs bx hp (m := m) (by unfold a20 at hm; omega) (L := L') k' (y11 := y11) (y12 := y12) (y13 := y13) (y14 := y14)
   exact ⟨_, rfl, _, e, k2, _, z11, z12, z13, z14, rfl⟩)
 refine ⟨some (.val (.int st.1)), some (.val (.int st.2)), z10, z11, z12, z13, z14, ?_, kk⟩
 have gr : Q4 [.int ((if L3 (w : Int) (ct cs u) (ct cs (u + 1)) st.2 < (h : Int) - st.1 then L3 (w : Int) (ct cs u) (ct cs (u + 1)) st.2 else (h : Int) - st.1) + 1)] = some ((List.range (a20 (w : Int) (h : Int) (ct cs u) (ct cs (u + 1)) st)).map fun (i : Nat) => PyData.int (i : Int)) := by
  refine b0b (by unfold a20; omega) ?_
  unfold a20
  split <;> omega
 unfold Q8 V5
 unfold a1J at *
 generalize csD cs = C at *
 generalize (A ++ [prev]).map LD = AD at *
 refine b9 (ρ1 := [some (.val (c7 ((w : Int), (h : Int)))), some (.val C), some (.val (.int (w : Int))), some (.val (.int (h : Int))), some (.own AD), some (.val (.int (u : Int))), some (ldT L), some (.val (c7 st)), some (.val (.int st.1)), some (.val (.int st.2)), y10, y11, y12, y13, y14]) (S1 := S) (by simp [c7]) ?_
 rw [← e]
 simp [ms, gr]
theorem b17 (hu : u + 1 < cs.length) (hw : w ≤ 100) (hw1 : 1 ≤ w) (hh : h ≤ 15) (hN : N ≤ 60) (hcs : ∀ u, ct cs u ≤ N) (kp : LOk (h : Int) N prev) (hA : A.length ≤ 1000) {y6 y7 y8 y9 y10 y11 y12 y13 y14 : Option T} :
  ∃ z6 z7 z8 z9 z10 z11 z12 z13 z14, R6 (a1J w h cs (A ++ [prev]) u y6 y7 y8 y9 y10 y11 y12 y13 y14) S =
   .nx (a1J w h cs (A ++ [prev] ++ [I8 (w : Int) (h : Int) (ct cs u) (ct cs (u + 1)) prev]) u z6 z7 z8 z9 z10 z11 z12 z13 z14) S ∧ LOk (h : Int) N (I8 (w : Int) (h : Int) (ct cs u) (ct cs (u + 1)) prev) := by
 obtain ⟨ρ', e, kk, z7, z8, z9, z10, z11, z12, z13, z14, rfl⟩ := P9 (b := f9 7) (body := Q8) (S := S) c7 (V5 (w : Int) (h : Int) (ct cs u) (ct cs (u + 1)) prev)
  (fun L ρ => LOk (h : Int) N L ∧ ∃ y7 y8 y9 y10 y11 y12 y13 y14, ρ = a1J w h cs (A ++ [prev]) u (some (ldT L)) y7 y8 y9 y10 y11 y12 y13 y14)
  (a9J (prev.map (·.1))) [] (a1J w h cs (A ++ [prev]) u (some (ldT [])) y7 y8 y9 y10 y11 y12 y13 y14) ⟨LOk.nil, y7, y8, y9, y10, y11, y12, y13, y14, rfl⟩ (by
   rintro st hst L' ρ ⟨k', y7, y8, y9, y10, y11, y12, y13, y14, rfl⟩
   have hst' : st ∈ prev.map (·.1) := sortB_mem.mp hst
   obtain ⟨e0, he0⟩ := a25 hst'
   obtain ⟨z8, z9, z10, z11, z12, z13, z14, e, k2⟩ := b0i (S := S) (A := A) hu hw hw1 hh hN hcs (kp.box st hst') he0 (L := L') k' (y8 := y8) (y9 := y9) (y10 := y10) (y11 := y11) (y12 := y12) (y13 := y13) (y14 := y14)
   exact ⟨_, rfl, _, e, k2, _, z8, z9, z10, z11, z12, z13, z14, rfl⟩)
 refine ⟨some (.val (LD (I8 (w : Int) (h : Int) (ct cs u) (ct cs (u + 1)) prev))), z7, z8, z9, z10, z11, z12, z13, z14, ?_, kk⟩
 have pr : gIx (.list ((A ++ [prev]).map LD)) (.int (-1)) = some (.val (LD prev)) := by rw [List.map_append]; exact a5E
 have sr := a9Z (L := prev) (by have := kp.len (by omega) hN; omega)
 have ap : E4 ((A ++ [prev]).map LD) [LD (I8 (w : Int) (h : Int) (ct cs u) (ct cs (u + 1)) prev)] = some ((A ++ [prev] ++ [I8 (w : Int) (h : Int) (ct cs u) (ct cs (u + 1)) prev]).map LD, .none) := a1y LD (by rw [List.length_append]; simp; omega)
 unfold R6
 refine b9 (ρ1 := a1J w h cs (A ++ [prev]) u (some (ldT [])) y7 y8 y9 y10 y11 y12 y13 y14) (S1 := S) rfl ?_
 refine b9 (ρ1 := a1J w h cs (A ++ [prev]) u (some (ldT (I8 (w : Int) (h : Int) (ct cs u) (ct cs (u + 1)) prev))) z7 z8 z9 z10 z11 z12 z13 z14) (S1 := S) (by
  unfold I8
  rw [← e]
  unfold a1J
  generalize csD cs = C at *
  generalize (A ++ [prev]).map LD = AD at *
  simp [pr, sr]) ?_
 have dl : PyData.dict (mkD true (kvT (kvL (I8 (w : Int) (h : Int) (ct cs u) (ct cs (u + 1)) prev)))) = LD (I8 (w : Int) (h : Int) (ct cs u) (ct cs (u + 1)) prev) := rfl
 unfold a1J ldT
 generalize csD cs = C at *
 generalize (A ++ [prev] ++ [I8 (w : Int) (h : Int) (ct cs u) (ct cs (u + 1)) prev]).map LD = BD at *
 generalize (A ++ [prev]).map LD = AD at *
 simp [dl, ap]
def i7 (w h : Nat) (cs : List Nat) : Nat → LDc
 | 0 => [((0, 0), ⟨0, none, 0, 0⟩)]
 | u + 1 => I8 (w : Int) (h : Int) (ct cs (u + 1)) (ct cs (u + 2)) (i7 w h cs u)
def l8 (w h : Nat) (cs : List Nat) (n : Nat) : List LDc := (List.range n).map (i7 w h cs)
theorem O0 (n : Nat) : l8 w h cs (n + 1) = l8 w h cs n ++ [i7 w h cs n] := by
 unfold l8
 rw [List.range_succ, List.map_append]
 rfl
theorem c1R (h0 : (0 : Int) ≤ N) : LOk (h : Int) N (i7 w h cs 0) := ⟨by simp [i7], fun k hk => by
 have : k = (0, 0) := by simpa [i7] using hk
 subst this
 exact ⟨Int.le_refl _, by show (0 : Int) ≤ (h : Int); omega, by show -N ≤ (0 : Int); omega, h0⟩⟩
theorem a0k (hl : cs.length = 32) (hw : w ≤ 100) (hw1 : 1 ≤ w) (hh : h ≤ 15) (hN : N ≤ 60) (hcs : ∀ u, ct cs u ≤ N) :
  C9 [.val (c7 ((w : Int), (h : Int))), .val (csD cs)] S = .ok (.own ((l8 w h cs 31).map LD)) S ∧ ∀ u, u ≤ 30 → LOk (h : Int) N (i7 w h cs u) := by
 have N0 : 0 ≤ N := by have := hcs 0; have := E1 cs 0; omega
 have fin := v5 (b := f9 5) (body := R6) (fun i ρ S' => S' = S ∧ (∀ u, u ≤ i → LOk (h : Int) N (i7 w h cs u)) ∧ ∃ z5 z6 z7 z8 z9 z10 z11 z12 z13 z14, ρ =
   [some (.val (c7 ((w : Int), (h : Int)))), some (.val (csD cs)), some (.val (.int (w : Int))), some (.val (.int (h : Int))), some (.own ((l8 w h cs (i + 1)).map LD)), z5, z6, z7, z8, z9, z10, z11, z12, z13, z14])
  (j8 1 30) 0 [some (.val (c7 ((w : Int), (h : Int)))), some (.val (csD cs)), some (.val (.int (w : Int))), some (.val (.int (h : Int))), some (.own ((l8 w h cs 1).map LD)), none, none, none, none, none, none, none, none, none, none] S
  ⟨rfl, fun u hu => by rw [show u = 0 by omega]; exact c1R N0, none, none, none, none, none, none, none, none, none, none, rfl⟩ (by
   rintro i d ρ S' hd ⟨rfl, k, z5, z6, z7, z8, z9, z10, z11, z12, z13, z14, rfl⟩
   rw [Nat.zero_add] at k
   obtain ⟨hi, rfl⟩ := P0 hd
   have es : (l8 w h cs i).length = i := by unfold l8; simp
   obtain ⟨x6, x7, x8, x9, x10, x11, x12, x13, x14, e2, k2⟩ := b17 (S := S') (w := w) (h := h) (u := i + 1) (cs := cs) (A := l8 w h cs i) (prev := i7 w h cs i) (by omega) hw hw1 hh hN hcs (k i (by omega)) (by omega) (y6 := z6) (y7 := z7) (y8 := z8) (y9 := z9) (y10 := z10) (y11 := z11) (y12 := z12) (y13 := z13) (y14 := z14)
   refine ⟨_, rfl, _, S', .inl ?_, rfl, fun u hu => ?_, some (.val (.int ((i + 1 : Nat) : Int))), x6, x7, x8, x9, x10, x11, x12, x13, x14, rfl⟩
   ·rw [Nat.zero_add, O0 (i + 1), O0 i, Nat.add_comm 1 i]
    exact e2
   ·by_cases q : u = i + 1
    ·rw [q]; exact k2
    ·exact k u (by omega))
 obtain ⟨ρ', S', e, rfl, k, z5, z6, z7, z8, z9, z10, z11, z12, z13, z14, rfl⟩ := fin
 rw [Nat.zero_add, y0] at k
 refine ⟨?_, k⟩
 rw [Nat.zero_add, y0] at e
 have gr : a0l [.int 1, .int 31] = some (j8 1 30) := a4C (n := 30) (by omega)
 have d0 : a37 true (kvT (kvL [])) (c7 (0, 0)) (a6w ⟨0, none, 0, 0⟩) = some (kvT (kvL (a9k [] (0, 0) ⟨0, none, 0, 0⟩))) := b2V (by decide)
 have d1 : a37 true [] (.tuple [.int 0, .int 0]) (.tuple [.int 0, .none, .int 0, .int 0]) = some (kvT (kvL (a9k [] (0, 0) ⟨0, none, 0, 0⟩))) := d0
 have s1 : [PyData.dict (mkD true (kvT (kvL (a9k [] (0, 0) ⟨0, none, 0, 0⟩))))] = (l8 w h cs 1).map LD := rfl
 unfold C9
 refine F7 ?_
 unfold a1G
 generalize csD cs = C at *
 refine b9 (ρ1 := [some (.val (c7 ((w : Int), (h : Int)))), some (.val C), some (.val (.int (w : Int))), some (.val (.int (h : Int))), none, none, none, none, none, none, none, none, none, none, none]) (S1 := S') (by simp [c7]) ?_
 refine b9 (ρ1 := [some (.val (c7 ((w : Int), (h : Int)))), some (.val C), some (.val (.int (w : Int))), some (.val (.int (h : Int))), some (.own ((l8 w h cs 1).map LD)), none, none, none, none, none, none, none, none, none, none]) (S1 := S') (by
  rw [← s1]
  simp [d1]) ?_
 generalize (l8 w h cs 1).map LD = A1 at *
 generalize (l8 w h cs (30 + 1)).map LD = A31 at *
 refine b9 (ρ1 := [some (.val (c7 ((w : Int), (h : Int)))), some (.val C), some (.val (.int (w : Int))), some (.val (.int (h : Int))), some (.own A31), z5, z6, z7, z8, z9, z10, z11, z12, z13, z14]) (S1 := S') (by simp [gr, e]) ?_
 simp
end
end BV
namespace BV
open PySem L2

def LeL (L L' : LDc) : Prop := ∀ k e, C8 L k = some e → ∃ e', C8 L' k = some e' ∧ e'.c ≤ e.c
theorem LeL.refl {L : LDc} : LeL L L := fun _ e h => ⟨e, h, Int.le_refl _⟩
theorem LeL.trans {L L' L'' : LDc} (h : LeL L L') (h' : LeL L' L'') : LeL L L'' := fun k e he => by
 obtain ⟨e1, h1, h2⟩ := h k e he
 obtain ⟨e2, h3, h4⟩ := h' k e1 h1
 exact ⟨e2, h3, Int.le_trans h4 h2⟩
section
variable {α : Type} {f : LDc → α → LDc}
theorem a1a : ∀ (xs : List α) (L : LDc), (∀ L, ∀ x ∈ xs, LeL L (f L x)) → LeL L (xs.foldl f L)
 | [], L, _ => LeL.refl
 | x :: xs, L, hf => (hf L x (List.mem_cons_self ..)).trans (a1a xs (f L x) fun L y hy => hf L y (List.mem_cons_of_mem _ hy))
theorem W6 (Pr : LDc → Prop) (h2 : ∀ L L', Pr L → LeL L L' → Pr L') : ∀ (xs : List α) (L : LDc), (∀ L, ∀ x ∈ xs, LeL L (f L x)) → (∃ x ∈ xs, ∀ L, Pr (f L x)) → Pr (xs.foldl f L)
 | [], L, _, h => by obtain ⟨x, hx, _⟩ := h; exact nomatch hx
 | x :: xs, L, hf, h => by
  obtain ⟨y, hy, hp⟩ := h
  have hf' : ∀ L, ∀ x ∈ xs, LeL L (f L x) := fun L y hy => hf L y (List.mem_cons_of_mem _ hy)
  rcases List.mem_cons.mp hy with e | hy
  ·subst e
   exact h2 _ _ (hp L) (a1a xs (f L y) hf')
  ·exact W6 Pr h2 xs (f L x) hf' ⟨y, hy, hp⟩
theorem X0 (Q : LDc → Prop) : ∀ (xs : List α) (L : LDc), (∀ L, ∀ x ∈ xs, Q L → Q (f L x)) → Q L → Q (xs.foldl f L)
 | [], L, _, h => h
 | x :: xs, L, hf, h => X0 Q xs (f L x) (fun L y hy => hf L y (List.mem_cons_of_mem _ hy)) (hf L x (List.mem_cons_self ..) h)
end
section
variable {w h cu cn : Int} {prev : LDc}
theorem a98 {st : Int × Int} {L : LDc} {m l : Int} : LeL L (b1g w cu cn prev st L m l) := by
 unfold b1g
 split
 ·exact LeL.refl
 ·rename_i p e
  split
  ·rename_i hb
   intro k e1 he
   rw [Z5]
   by_cases hk : k = (st.1 + m, p.1)
   ·rw [if_pos hk]
    refine ⟨_, rfl, ?_⟩
    rw [← hk, he] at hb
    have hb' := of_decide_eq_true hb
    exact Int.le_of_lt hb'
   ·rw [if_neg hk]
    exact ⟨e1, he, Int.le_refl _⟩
  ·exact LeL.refl
theorem a3w {st : Int × Int} {L : LDc} {m : Nat} : LeL L (V3 w cu cn prev st L m) := a1a _ _ fun _ _ _ => a98
theorem b1a {st : Int × Int} {L : LDc} : LeL L (V5 w h cu cn prev L st) := a1a _ _ fun _ _ _ => a3w
theorem a7G {st : Int × Int} {p : LSt} (hp : C8 prev st = some p) {m l : Nat} (hm : (m : Int) ≤ min (h - st.1) (L3 w cu cn st.2)) (hl : (l : Int) ≤ min cu (max 0 st.2)) {a dc : Int} (e : onP w cu cn st.2 (m : Int) (l : Int) = some (a, dc)) :
  ∃ e', C8 (I8 w h cu cn prev) (st.1 + (m : Int), a) = some e' ∧ e'.c ≤ p.c + dc := by
 have h2 : ∀ L L', (∃ e', C8 L (st.1 + (m : Int), a) = some e' ∧ e'.c ≤ p.c + dc) → LeL L L' → ∃ e', C8 L' (st.1 + (m : Int), a) = some e' ∧ e'.c ≤ p.c + dc := fun L L' ⟨e1, h1, h3⟩ le => by
  obtain ⟨e2, h4, h5⟩ := le _ _ h1
  exact ⟨e2, h4, by omega⟩
 unfold I8
 refine W6 _ h2 _ _ (fun _ _ _ => b1a) ⟨st, sortB_mem.mpr (List.mem_map.mpr ⟨_, L6 hp, rfl⟩), fun L => ?_⟩
 unfold V5
 refine W6 _ h2 _ _ (fun _ _ _ => a3w) ⟨m, List.mem_range.mpr (by unfold a20; omega), fun L => ?_⟩
 unfold V3
 refine W6 _ h2 _ _ (fun _ _ _ => a98) ⟨l, List.mem_range.mpr (by unfold a54; omega), fun L => ?_⟩
 unfold b1g
 rw [e, hp]
 simp only [Option.map_some, Option.getD_some]
 split
 ·rename_i hb
  rw [Z5, if_pos rfl]
  exact ⟨_, rfl, Int.le_refl _⟩
 ·rename_i hb
  cases eg : C8 L (st.1 + (m : Int), a) with
  | none => rw [eg] at hb; exact absurd rfl hb
  | some e1 =>
   rw [eg] at hb
   have : ¬ (p.c + dc < e1.c) := fun z => hb (decide_eq_true z)
   exact ⟨e1, rfl, by omega⟩
def Src (w h cu cn : Int) (prev : LDc) (k : Int × Int) (e : LSt) : Prop := ∃ st p dc, C8 prev st = some p ∧ e.ah = some st ∧ 0 ≤ e.m ∧ 0 ≤ e.l ∧ e.m ≤ h - st.1 ∧ e.m ≤ L3 w cu cn st.2 ∧ e.l ≤ cu ∧ e.l ≤ max 0 st.2 ∧ onP w cu cn st.2 e.m e.l = some (k.2, dc) ∧ k.1 = st.1 + e.m ∧ e.c = p.c + dc
theorem a7l (hb : ∀ k ∈ prev.map (·.1), k.1 ≤ h) (h0 : 0 ≤ cu) (h1 : 0 ≤ cn) (hw : 0 < w) {k : Int × Int} {e : LSt} (he : C8 (I8 w h cu cn prev) k = some e) : Src w h cu cn prev k e := by
 have key : (fun L : LDc => ∀ k e, C8 L k = some e → Src w h cu cn prev k e) (I8 w h cu cn prev) := by
  unfold I8
  refine X0 (fun L : LDc => ∀ k e, C8 L k = some e → Src w h cu cn prev k e) _ _ (fun L st hst q => ?_) (fun k e (he : C8 [] k = some e) => by cases he)
  have hst' : st ∈ prev.map (·.1) := sortB_mem.mp hst
  obtain ⟨p, hp⟩ := a25 hst'
  have hh := hb st hst'
  have mp0 : 0 ≤ L3 w cu cn st.2 := by
   unfold L3
   have := b0Q st.2
   exact Int.ediv_nonneg (by omega) (by omega)
  unfold V5
  refine X0 (fun L : LDc => ∀ k e, C8 L k = some e → Src w h cu cn prev k e) _ _ (fun L m hm q => ?_) q
  rw [List.mem_range] at hm
  unfold a20 at hm
  unfold V3
  refine X0 (fun L : LDc => ∀ k e, C8 L k = some e → Src w h cu cn prev k e) _ _ (fun L l hl q => ?_) q
  rw [List.mem_range] at hl
  unfold a54 at hl
  unfold b1g
  rw [hp]
  simp only [Option.map_some, Option.getD_some]
  cases eo : onP w cu cn st.2 (m : Int) (l : Int) with
  | none => exact q
  | some r =>
   simp only
   split
   ·intro k e he
    rw [Z5] at he
    by_cases hk : k = (st.1 + (m : Int), r.1)
    ·rw [if_pos hk] at he
     cases he
     subst hk
     exact ⟨st, p, r.2, hp, rfl, by show (0 : Int) ≤ (m : Int); omega, by show (0 : Int) ≤ (l : Int); omega, by show (m : Int) ≤ _; omega, by show (m : Int) ≤ _; omega, by show (l : Int) ≤ _; omega, by show (l : Int) ≤ _; omega, eo, rfl, rfl⟩
    ·rw [if_neg hk] at he
     exact q k e he
   ·exact q
 exact key k e he
end
inductive Way (w h : Int) (cs : List Nat) : Nat → Int × Int → Int → List (Int × Int) → Prop
 | zero : Way w h cs 0 (0, 0) 0 []
 | succ {u : Nat} {st : Int × Int} {c : Int} {ps : List (Int × Int)} {m l a dc : Int} : Way w h cs u st c ps → 0 ≤ m → 0 ≤ l → st.1 + m ≤ h → l ≤ ct cs (u + 1) → l ≤ max 0 st.2 → onP w (ct cs (u + 1)) (ct cs (u + 2)) st.2 m l = some (a, dc) → Way w h cs (u + 1) (st.1 + m, a) (c + dc) (ps ++ [(m, l)])
section
variable {w h : Nat} {cs : List Nat} {N : Int}
def P7 (w h : Nat) (cs : List Nat) : Nat → Int × Int → List (Int × Int)
 | 0, _ => []
 | u + 1, st => match C8 (i7 w h cs (u + 1)) st with
  | some e => P7 w h cs u (e.ah.getD (0, 0)) ++ [(e.m, e.l)]
  | none => []
theorem a3d (hw : 1 ≤ w) (k : ∀ u, u ≤ 30 → LOk (h : Int) N (i7 w h cs u)) : ∀ (u : Nat), u ≤ 30 → ∀ {st : Int × Int} {e : LSt}, C8 (i7 w h cs u) st = some e → Way (w : Int) (h : Int) cs u st e.c (P7 w h cs u st)
 | 0, _, st, e, he => by
  have hm := L6 he
  simp only [i7, List.mem_singleton, Prod.mk.injEq] at hm
  obtain ⟨rfl, rfl⟩ := hm
  exact .zero
 | u + 1, hu, st, e, he => by
  have hs := a7l (h := (h : Int)) (fun k' hk' => (k u (by omega)).box k' hk' |>.r1) (E1 cs _) (E1 cs _) (show (0 : Int) < (w : Int) by omega) (show C8 (I8 (w : Int) (h : Int) (ct cs (u + 1)) (ct cs (u + 2)) (i7 w h cs u)) st = some e from he)
  obtain ⟨st0, p, dc, hp, ha, m0, l0, m1, m2, l1, l2, eo, e1, e2⟩ := hs
  have ih := a3d hw k u (by omega) hp
  have := Way.succ ih m0 l0 (by omega) l1 l2 eo
  rw [← e1, ← e2] at this
  have eb : P7 w h cs (u + 1) st = P7 w h cs u st0 ++ [(e.m, e.l)] := by
   show (match C8 (i7 w h cs (u + 1)) st with
    | some e => P7 w h cs u (e.ah.getD (0, 0)) ++ [(e.m, e.l)]
    | none => []) = _
   rw [he]
   simp only [ha, Option.getD_some]
  rw [eb]
  exact this
theorem a9M {w cu cn s : Int} (hw : 0 < w) : wt s + cu + cn ≤ w * L3 w cu cn s := by
 unfold L3
 have h1 := Int.emod_add_mul_ediv (wt s + cu + cn + w - 1) w
 have h2 := Int.emod_lt_of_pos (wt s + cu + cn + w - 1) hw
 omega
theorem a96 {x y z : Int} (h : x ≤ y) : min x z ≤ min y z := by omega
theorem b36 {x y z : Int} (h : z ≤ y) : min x z ≤ min y z := by omega
theorem l_ok {l cu s s' : Int} (l0 : 0 ≤ l) (lc : l ≤ cu) (ls : l ≤ max 0 s) (h : s ≤ s') : ((l.toNat : Nat) : Int) ≤ min cu (max 0 s') := by omega
theorem c0W {m h a b : Int} (m0 : 0 ≤ m) (h1 : m ≤ h - a) (h2 : m ≤ b) : ((m.toNat : Nat) : Int) ≤ min (h - a) b := by omega
theorem b5m {s s' : Int} (h : s ≤ s') : wt s' ≤ wt s := by unfold wt; split <;> split <;> omega
theorem a3i (hw : 1 ≤ w) (k : ∀ u, u ≤ 30 → LOk (h : Int) N (i7 w h cs u)) {u : Nat} {st : Int × Int} {c : Int} {ps : List (Int × Int)} (y : Way (w : Int) (h : Int) cs u st c ps) (hu : u ≤ 30) :
  ∃ st' e, C8 (i7 w h cs u) st' = some e ∧ st'.1 ≤ st.1 ∧ st.2 ≤ st'.2 ∧ e.c ≤ c := by
 induction y with
 | zero => exact ⟨(0, 0), ⟨0, none, 0, 0⟩, rfl, Int.le_refl _, Int.le_refl _, Int.le_refl _⟩
 | @succ u st c ps m l a dc y m0 l0 mh lc ls eo ih =>
  obtain ⟨st', e, he, r1, s1, c1⟩ := ih (by omega)
  have bx := (k u (by omega)).box st' (List.mem_map.mpr ⟨_, L6 he, rfl⟩)
  have cn0 := E1 cs (u + 2)
  have cu0 := E1 cs (u + 1)
  have wm := b5m s1
  have wp := b0Q st'.2
  unfold onP at eo
  split at eo
  ·cases eo
  ·rename_i hr
   injection eo with eo
   injection eo with ea edc
   have mr := a9M (w := (w : Int)) (cu := ct cs (u + 1)) (cn := ct cs (u + 2)) (s := st'.2) (by omega)
   have mp0 : 0 ≤ L3 (w : Int) (ct cs (u + 1)) (ct cs (u + 2)) st'.2 := by
    unfold L3
    exact Int.ediv_nonneg (by omega) (by omega)
   by_cases hm : m ≤ L3 (w : Int) (ct cs (u + 1)) (ct cs (u + 2)) st'.2
   ·obtain ⟨e', h1, h2⟩ := a7G (w := (w : Int)) (h := (h : Int)) (cu := ct cs (u + 1)) (cn := ct cs (u + 2)) he (m := m.toNat) (l := l.toNat) (c0W m0 (by omega) hm) (l_ok l0 lc ls s1) (a := min ((w : Int) * m - wt st'.2 - (ct cs (u + 1) - l)) (ct cs (u + 2))) (dc := wt st'.2 + l) (by
     unfold onP
     rw [show ((m.toNat : Nat) : Int) = m by omega, show ((l.toNat : Nat) : Int) = l by omega, if_neg (by omega)])
    rw [show ((m.toNat : Nat) : Int) = m by omega] at h1
    exact ⟨_, e', h1, by show st'.1 + m ≤ st.1 + m; omega, by show a ≤ min _ _; rw [← ea]; exact a96 (by omega), by omega⟩
   ·generalize hM : L3 (w : Int) (ct cs (u + 1)) (ct cs (u + 2)) st'.2 = M at *
    obtain ⟨e', h1, h2⟩ := a7G (w := (w : Int)) (h := (h : Int)) (cu := ct cs (u + 1)) (cn := ct cs (u + 2)) he (m := M.toNat) (l := l.toNat) (c0W mp0 (by omega) (Int.le_of_eq hM.symm)) (l_ok l0 lc ls s1) (a := min ((w : Int) * M - wt st'.2 - (ct cs (u + 1) - l)) (ct cs (u + 2))) (dc := wt st'.2 + l) (by
     unfold onP
     rw [show ((M.toNat : Nat) : Int) = M by omega, show ((l.toNat : Nat) : Int) = l by omega, if_neg (by omega)])
    rw [show ((M.toNat : Nat) : Int) = M by omega] at h1
    exact ⟨_, e', h1, by show st'.1 + M ≤ st.1 + m; omega, by show a ≤ min _ _; rw [← ea]; exact b36 (by omega), by omega⟩
end
end BV
namespace BV
open PySem L2
def nD (x : Int × (Int × Int)) : D := .tuple [.int x.1, c7 x.2]
theorem b35 (x : Int × (Int × Int)) : b5K (nD x) = true := rfl
theorem b7k {x y : Int × (Int × Int)} : (W.dataLt (nD y) (nD x) = true → y.1 ≤ x.1) ∧ (W.dataLt (nD y) (nD x) = false → x.1 ≤ y.1) := by
 obtain ⟨c, r, s⟩ := x
 obtain ⟨c', r', s'⟩ := y
 have e : W.dataLt (nD (c', (r', s'))) (nD (c, (r, s))) = PyProof.Rows.lexLt PyProof.Rows.itemOrd (.inl 1 :: .inl c' :: [.inl 1, .inl 1, .inl r', .inl 1, .inl s', .inl 0, .inl 0]) (.inl 1 :: .inl c :: [.inl 1, .inl 1, .inl r, .inl 1, .inl s, .inl 0, .inl 0]) := rfl
 rw [e, c0q, if_pos rfl, c0q]
 show (_ → c' ≤ c) ∧ (_ → c ≤ c')
 by_cases h : c' = c
 ·exact ⟨fun _ => by omega, fun _ => by omega⟩
 ·rw [if_neg h]
  exact ⟨fun q => by have := of_decide_eq_true q; omega, fun q => by have := of_decide_eq_false q; omega⟩
theorem b00 : ∀ (xs : List (Int × (Int × Int))) (x : Int × (Int × Int)), ∃ y ∈ x :: xs, W.minD (nD x) (xs.map nD) = nD y ∧ ∀ z ∈ x :: xs, y.1 ≤ z.1
 | [], x => ⟨x, List.mem_cons_self .., rfl, fun z hz => by rw [List.mem_singleton.mp hz]; exact Int.le_refl _⟩
 | a :: xs, x => by
  have e : W.minD (nD x) ((a :: xs).map nD) = W.minD (if W.dataLt (nD a) (nD x) then nD a else nD x) (xs.map nD) := rfl
  cases h : W.dataLt (nD a) (nD x) with
  | true =>
   obtain ⟨y, hy, e1, h1⟩ := b00 xs a
   refine ⟨y, List.mem_cons_of_mem _ hy, by rw [e, h]; exact e1, fun z hz => ?_⟩
   rcases List.mem_cons.mp hz with q | hz
   ·subst q
    have := b7k.1 h
    have := h1 a (List.mem_cons_self ..)
    omega
   ·exact h1 z hz
  | false =>
   obtain ⟨y, hy, e1, h1⟩ := b00 xs x
   refine ⟨y, ?_, by rw [e, h]; exact e1, fun z hz => ?_⟩
   ·rcases List.mem_cons.mp hy with q | hy
    ·rw [q]; exact List.mem_cons_self ..
    ·exact List.mem_cons_of_mem _ (List.mem_cons_of_mem _ hy)
   ·rcases List.mem_cons.mp hz with q | hz
    ·subst q; exact h1 _ (List.mem_cons_self ..)
    ·rcases List.mem_cons.mp hz with q | hz
     ·subst q
      have := b7k.2 h
      have := h1 x (List.mem_cons_self ..)
      omega
     ·exact h1 z (List.mem_cons_of_mem _ hz)
theorem b1K {xs : List (Int × (Int × Int))} (h : xs ≠ []) : ∃ y ∈ xs, a7S [.list (xs.map nD)] = some (.val (nD y)) ∧ ∀ z ∈ xs, y.1 ≤ z.1 := by
 cases xs with
 | nil => exact absurd rfl h
 | cons x xs =>
  obtain ⟨y, hy, e, hm⟩ := b00 xs x
  refine ⟨y, hy, ?_, hm⟩
  rw [List.map_cons]
  show (if (nD x :: xs.map nD).all b5K = true then some (T.val (W.minD (nD x) (xs.map nD))) else none) = _
  rw [if_pos, e]
  rw [← List.map_cons, List.all_map]
  exact List.all_eq_true.mpr fun z _ => b35 z
def G6 (L : LDc) : List (Int × (Int × Int)) := (L.filter fun p => decide (0 ≤ p.1.2)).map fun p => (p.2.c, p.1)
theorem X7 {L : LDc} (nd : (L.map (·.1)).Nodup) {p : (Int × Int) × LSt} (h : p ∈ L) : C8 L p.1 = some p.2 := by
 induction L with
 | nil => exact nomatch h
 | cons q L ih =>
  rw [List.map_cons, List.nodup_cons] at nd
  unfold C8
  rw [List.find?_cons]
  rcases List.mem_cons.mp h with e | h
  ·subst e
   simp
  ·have : ¬ q.1 = p.1 := fun z => nd.1 (z ▸ List.mem_map.mpr ⟨p, h, rfl⟩)
   rw [decide_eq_false this]
   exact ih nd.2 h
theorem W7 {L : LDc} (nd : (L.map (·.1)).Nodup) {c : Int} {k : Int × Int} : (c, k) ∈ G6 L ↔ 0 ≤ k.2 ∧ ∃ e, C8 L k = some e ∧ e.c = c := by
 unfold G6
 rw [List.mem_map]
 constructor
 ·rintro ⟨p, hp, e⟩
  rw [List.mem_filter] at hp
  injection e with e1 e2
  subst e2
  exact ⟨of_decide_eq_true hp.2, p.2, X7 nd hp.1, e1⟩
 ·rintro ⟨h, e, he, rfl⟩
  exact ⟨(k, e), List.mem_filter.mpr ⟨L6 he, decide_eq_true h⟩, rfl⟩
section
variable {S : Sto} {w h : Nat} {cs : List Nat} {N : Int}
def b4Y (w h : Nat) (cs : List Nat) (e4 : D) (F : List (Int × Int)) (y3 y6 y7 y8 y9 y10 : Option T) : En :=
 [some (.val (c7 ((w : Int), (h : Int)))), some (.val (csD cs)), some (.own ((l8 w h cs 31).map LD)), y3, some (.val e4), some (.own (F.map c7)), y6, y7, y8, y9, y10]
theorem b2z {u : Nat} (hu : u ≤ 30) : gIx (.list ((l8 w h cs 31).map LD)) (.int (u : Int)) = some (.val (LD (i7 w h cs u))) := by
 rw [C2, u9 (v := LD (i7 w h cs u))]
 ·rfl
 ·unfold l8
  rw [List.map_map, List.getElem?_map, List.getElem?_range (by omega)]
  rfl
theorem a9G {u : Nat} (hu : u ≤ 30) {st : Int × Int} {e : LSt} (he : C8 (i7 w h cs u) st = some e) {F : List (Int × Int)} (hF : F.length ≤ 1000) {y3 y7 y8 y9 y10 : Option T} :
  ∃ z7 z8 z9 z10, B1 (b4Y w h cs (c7 st) F y3 (some (.val (.int (u : Int)))) y7 y8 y9 y10) S = .nx (b4Y w h cs (ahD e.ah) (F ++ [(e.m, e.l)]) y3 (some (.val (.int (u : Int)))) z7 z8 z9 z10) S := by
 have si := b2z (w := w) (h := h) (cs := cs) hu
 have tx := a1t he
 have ap : E4 (F.map c7) [.tuple [.int e.m, .int e.l]] = some ((F ++ [(e.m, e.l)]).map c7, .none) := a1y c7 (x := (e.m, e.l)) (by omega)
 refine ⟨some (.val (.int e.c)), some (.val (ahD e.ah)), some (.val (.int e.m)), some (.val (.int e.l)), ?_⟩
 unfold B1 b4Y
 generalize csD cs = C at *
 generalize (l8 w h cs 31).map LD = A at *
 generalize (F ++ [(e.m, e.l)]).map c7 = F2 at *
 generalize F.map c7 = F1 at *
 refine b9 (ρ1 := [some (.val (c7 ((w : Int), (h : Int)))), some (.val C), some (.own A), y3, some (.val (c7 st)), some (.own F1), some (.val (.int (u : Int))), some (.val (.int e.c)), some (.val (ahD e.ah)), some (.val (.int e.m)), some (.val (.int e.l))]) (S1 := S) (by simp [si, tx, a6w]) ?_
 have ha : ∀ {ρ : En}, ρ[8]? = some (some (.val (ahD e.ah))) → m7 8 ρ S = .ok (.val (ahD e.ah)) S := fun h => by simp [h]
 refine b9 (ρ1 := [some (.val (c7 ((w : Int), (h : Int)))), some (.val C), some (.own A), y3, some (.val (c7 st)), some (.own F2), some (.val (.int (u : Int))), some (.val (.int e.c)), some (.val (ahD e.ah)), some (.val (.int e.m)), some (.val (.int e.l))]) (S1 := S) (by simp [ap]) ?_
 simp
theorem b4b (hl : cs.length = 32) (hw : w ≤ 100) (hw1 : 1 ≤ w) (hh : h ≤ 15) (hN : N ≤ 60) (hcs : ∀ u, ct cs u ≤ N) :
  (G6 (i7 w h cs 30) = [] → r8 [.val (c7 ((w : Int), (h : Int))), .val (csD cs)] S = .exc ⟨"NoLayout", none⟩ S) ∧
  (G6 (i7 w h cs 30) ≠ [] → ∃ c st, (c, st) ∈ G6 (i7 w h cs 30) ∧ (∀ z ∈ G6 (i7 w h cs 30), c ≤ z.1) ∧ r8 [.val (c7 ((w : Int), (h : Int))), .val (csD cs)] S = .ok (.own (((0, 0) :: P7 w h cs 30 st).map c7)) S) := by
 obtain ⟨hst, k⟩ := a0k (S := S) hl hw hw1 hh hN hcs
 have k30 := k 30 (Nat.le_refl _)
 have l30 := k30.len (by omega) hN
 have sl : gIx (.list ((l8 w h cs 31).map LD)) (.int (-1)) = some (.val (LD (i7 w h cs 30))) := by
  rw [O0 30, List.map_append]
  exact a5E
 have sx : ∀ {ρ : En}, ρ[2]? = some (some (.own ((l8 w h cs 31).map LD))) → a5Z (d9 gIx (b7 2) (cUn a1v (cC (.int 1)))) ρ S = .ok ((i7 w h cs 30).map fun p => c7 p.1) S := fun {ρ} h2 => by
  have hp : J3 (kvT (kvL (i7 w h cs 30))) = some ((i7 w h cs 30).map (·.1)) := by
   generalize i7 w h cs 30 = L
   induction L with
   | nil => rfl
   | cons p L ih =>
    show (J3 (kvT (kvL L))).map _ = _
    rw [ih]
    rfl
  have e0 : (d9 gIx (b7 2) (cUn a1v (cC (.int 1)))) ρ S = .ok (.val (LD (i7 w h cs 30))) S := by
   generalize (l8 w h cs 31).map LD = A at *
   simp [h2, sl]
  unfold a5Z
  rw [e0]
  have e1 : unD (mkD true (kvT (kvL (i7 w h cs 30)))) = (true, kvT (kvL (i7 w h cs 30))) := rfl
  unfold LD
  simp only [a3e, e1, if_true, hp, List.length_map, if_pos (show (i7 w h cs 30).length ≤ 10000 by omega), List.map_map]
  rfl
 have lc : ∀ (c d : Option T) (f g i j l m n : Option T), lcM (f9 4) (cB (d9 gGe (d9 gIx (b7 4) (cC (.int 1))) (cC (.int 0)))) (Y1 (d3 (d9 gIx (d9 a9t (d9 gIx (b7 2) (cUn a1v (cC (.int 1)))) (b7 4)) (cC (.int 0))) (d3 (m7 4) m6)))
   [c, d, some (.own ((l8 w h cs 31).map LD)), f, g, i, j, l, m, n, none] ((i7 w h cs 30).map fun p => c7 p.1) S = .ok ((G6 (i7 w h cs 30)).map nD) S := fun c d f g i j l m n => by
  have := a7f (S := S) (b := f9 4) (tt := (cB (d9 gGe (d9 gIx (b7 4) (cC (.int 1))) (cC (.int 0))))) (elt := (Y1 (d3 (d9 gIx (d9 a9t (d9 gIx (b7 2) (cUn a1v (cC (.int 1)))) (b7 4)) (cC (.int 0))) (d3 (m7 4) m6))))
   (ρ := [c, d, some (.own ((l8 w h cs 31).map LD)), f, g, i, j, l, m, n, none]) (fun p : (Int × Int) × LSt => c7 p.1) (fun p => decide (0 ≤ p.1.2)) (fun p => nD (p.2.c, p.1)) (i7 w h cs 30) fun p hp => by
    have tx := a1t (X7 k30.nd hp)
    have il : gIx (a6w p.2) (.int 0) = some (.val (.int p.2.c)) := rfl
    have i1 : gIx (c7 p.1) (.int 1) = some (.val (.int p.1.2)) := rfl
    refine ⟨_, .val (nD (p.2.c, p.1)), rfl, ?_, ?_, rfl⟩
    ·simp [i1]
    ·generalize (l8 w h cs 31).map LD = A at *
     simp [sl, tx, il, nD]
  rw [this]
  unfold G6
  rw [List.map_map]
  rfl
 have pre : ∀ {r : Fl} {rest : SS}, rest [some (.val (c7 ((w : Int), (h : Int)))), some (.val (csD cs)), some (.own ((l8 w h cs 31).map LD)), some (.own ((G6 (i7 w h cs 30)).map nD)), none, none, none, none, none, none, none] S = r →
   (j9 (s8 2 (t9 C9 (d3 (m7 0) (d3 (m7 1) m6)))) (j9 (s8 3 (cLc (a5Z (d9 gIx (b7 2) (cUn a1v (cC (.int 1))))) (f9 4) (cB (d9 gGe (d9 gIx (b7 4) (cC (.int 1))) (cC (.int 0)))) (Y1 (d3 (d9 gIx (d9 a9t (d9 gIx (b7 2) (cUn a1v (cC (.int 1)))) (b7 4)) (cC (.int 0))) (d3 (m7 4) m6))) [4])) rest)) (start0 11 [.val (c7 ((w : Int), (h : Int))), .val (csD cs)]) S = r := fun hr => by
  refine b9 (ρ1 := [some (.val (c7 ((w : Int), (h : Int)))), some (.val (csD cs)), some (.own ((l8 w h cs 31).map LD)), none, none, none, none, none, none, none, none]) (S1 := S) (by
   generalize csD cs = C at *
   generalize (l8 w h cs 31).map LD = A at *
   simp [hst]) ?_
  refine b9 ?_ hr
  have e0 : cLc (a5Z (d9 gIx (b7 2) (cUn a1v (cC (.int 1))))) (f9 4) (cB (d9 gGe (d9 gIx (b7 4) (cC (.int 1))) (cC (.int 0)))) (Y1 (d3 (d9 gIx (d9 a9t (d9 gIx (b7 2) (cUn a1v (cC (.int 1)))) (b7 4)) (cC (.int 0))) (d3 (m7 4) m6))) [4]
    [some (.val (c7 ((w : Int), (h : Int)))), some (.val (csD cs)), some (.own ((l8 w h cs 31).map LD)), none, none, none, none, none, none, none, none] S = .ok (.own ((G6 (i7 w h cs 30)).map nD)) S := by
   rw [b9U, sx rfl]
   simp only [M4]
   rw [show q8 [some (.val (c7 ((w : Int), (h : Int)))), some (.val (csD cs)), some (.own ((l8 w h cs 31).map LD)), none, none, none, none, none, none, none, none] [4] = [some (.val (c7 ((w : Int), (h : Int)))), some (.val (csD cs)), some (.own ((l8 w h cs 31).map LD)), none, none, none, none, none, none, none, none] from rfl, lc]
   rfl
  rw [b4d, b9n, e0]
  rfl
 constructor
 ·intro he
  unfold r8
  rw [b1S]
  unfold L9
  have := pre (r := .ex ⟨"NoLayout", none⟩ [some (.val (c7 ((w : Int), (h : Int)))), some (.val (csD cs)), some (.own ((l8 w h cs 31).map LD)), some (.own []), none, none, none, none, none, none, none] S)
   (rest := (j9 (sIf (cB (d9 (gEq false) (b7 3) (n9 m6))) (a0G "NoLayout") t4)
  (j9 (s8 4 (d9 gIx (cB1 a7S (i8 (b7 3) A9)) (cC (.int 1))))
  (j9 (s8 5 (n9 m6))
  (j9 (a0Y (a18 b0v (i8 (cC (.int 30)) (i8 (cUn a1v (cC (.int 1))) (i8 (cUn a1v (cC (.int 1))) A9)))) (f9 6) B1)
  (O3 (cUn b74 (b7 5)))))))) (by
   rw [he]
   generalize (l8 w h cs 31).map LD = A at *
   generalize csD cs = C at *
   simp)
  rw [this]
 ·intro he
  obtain ⟨⟨c, st⟩, hy, hmin, hle⟩ := b1K he
  obtain ⟨_, e0, he0, hc0⟩ := (W7 k30.nd).mp hy
  refine ⟨c, st, hy, hle, ?_⟩
  have loop := v5 (b := f9 6) (body := B1) (fun i ρ S' => S' = S ∧ ∃ F d y6 y7 y8 y9 y10, ρ = b4Y w h cs d F (some (.own ((G6 (i7 w h cs 30)).map nD))) y6 y7 y8 y9 y10 ∧ F.length = i ∧ (i ≤ 30 → ∃ st' e, d = c7 st' ∧ C8 (i7 w h cs (30 - i)) st' = some e ∧ P7 w h cs 30 st = P7 w h cs (30 - i) st' ++ F.reverse) ∧ (i = 31 → F.reverse = (0, 0) :: P7 w h cs 30 st))
   ((List.range 31).map fun (k : Nat) => PyData.int (30 - (k : Int))) 0 (b4Y w h cs (c7 st) [] (some (.own ((G6 (i7 w h cs 30)).map nD))) none none none none none) S ⟨rfl, [], _, _, _, _, _, _, rfl, rfl, fun _ => ⟨st, e0, rfl, he0, by rw [List.reverse_nil, List.append_nil]⟩, fun z => by omega⟩ (by
    rintro i d ρ S' hd ⟨rfl, F, d', y6, y7, y8, y9, y10, rfl, hFl, hi, _⟩
    rw [List.getElem?_map] at hd
    have hi31 : i < 31 := by
     cases q : (List.range 31)[i]? with
     | none => rw [q] at hd; cases hd
     | some v => have := (List.getElem?_eq_some_iff.mp q).1; simpa using this
    rw [List.getElem?_range hi31] at hd
    cases hd
    rw [Nat.zero_add] at hFl hi
    obtain ⟨st', e, rfl, he', hb⟩ := hi (by omega)
    have hu : (30 : Int) - (i : Int) = ((30 - i : Nat) : Int) := by omega
    obtain ⟨z7, z8, z9, z10, et⟩ := a9G (S := S') (u := 30 - i) (by omega) he' (F := F) (by omega) (y3 := some (.own ((G6 (i7 w h cs 30)).map nD))) (y7 := y7) (y8 := y8) (y9 := y9) (y10 := y10)
    refine ⟨_, rfl, _, S', .inl ?_, rfl, F ++ [(e.m, e.l)], ahD e.ah, some (.val (.int ((30 - i : Nat) : Int))), z7, z8, z9, z10, rfl, by rw [List.length_append, Nat.zero_add, hFl]; rfl, fun hle' => ?_, fun hle' => ?_⟩
    ·show B1 (b4Y w h cs (c7 st') F _ (some (.val (.int (30 - (i : Int))))) y7 y8 y9 y10) S' = _
     rw [hu]
     exact et
    ·rw [Nat.zero_add] at hle' ⊢
     obtain ⟨v, hv⟩ : ∃ v, 30 - i = v + 1 := ⟨30 - i - 1, by omega⟩
     rw [hv] at he' hb
     have hs := a7l (h := (h : Int)) (fun k' hk' => (k v (by omega)).box k' hk' |>.r1) (E1 cs _) (E1 cs _) (show (0 : Int) < (w : Int) by omega) (show C8 (I8 (w : Int) (h : Int) (ct cs (v + 1)) (ct cs (v + 2)) (i7 w h cs v)) st' = some e from he')
     obtain ⟨st0, p, dc, hp, ha, _⟩ := hs
     have hv2 : 30 - (i + 1) = v := by omega
     rw [hv2]
     refine ⟨st0, p, by rw [ha]; rfl, hp, ?_⟩
     rw [hb]
     have eb : P7 w h cs (v + 1) st' = P7 w h cs v st0 ++ [(e.m, e.l)] := by
      show (match C8 (i7 w h cs (v + 1)) st' with
       | some e => P7 w h cs v (e.ah.getD (0, 0)) ++ [(e.m, e.l)]
       | none => []) = _
      rw [he']
      simp only [ha, Option.getD_some]
     rw [eb, List.reverse_append]
     simp
    ·rw [Nat.zero_add] at hle'
     have h0 : 30 - i = 0 := by omega
     rw [h0] at he' hb
     have hm := L6 he'
     simp only [i7, List.mem_singleton, Prod.mk.injEq] at hm
     obtain ⟨rfl, rfl⟩ := hm
     rw [hb, List.reverse_append]
     rfl)
  obtain ⟨ρ', S', e, rfl, F, d, y6, y7, y8, y9, y10, rfl, hFl, _, hF⟩ := loop
  have hlen : ((List.range 31).map fun (k : Nat) => PyData.int (30 - (k : Int))).length = 31 := by rw [List.length_map, List.length_range]
  rw [Nat.zero_add, hlen] at hF
  have hF := hF rfl
  unfold r8
  refine F7 ?_
  unfold L9
  refine pre ?_
  have ne : gEq false (.list ((G6 (i7 w h cs 30)).map nD)) (.list []) = some (.val (.bool false)) := by
   rw [b8S (a09 nD (fun _ => rfl) (fun _ => by simp [nD, c7, PyData.depth, PyData.depthAll]) _).1 b1w]
   cases hx : G6 (i7 w h cs 30) with
   | nil => exact absurd hx he
   | cons x xs => simp
  have mn : a7S [.list ((G6 (i7 w h cs 30)).map nD)] = some (.val (nD (c, st))) := hmin
  have gr : b0v [.int 30, .int (-1), .int (-1)] = some ((List.range 31).map fun (k : Nat) => PyData.int (30 - (k : Int))) := by
   show (if (-1 : Int) = -1 ∧ ((30 : Int) - (-1)).toNat ≤ sizeLine ∧ w3 30 = true ∧ w3 (-1) = true then some ((List.range ((30 : Int) - (-1)).toNat).map fun (k : Nat) => PyData.int (30 - (k : Int))) else none) = _
   rw [if_pos ⟨rfl, by rw [sizeLine_eq]; decide, by decide, by decide⟩]
   rfl
  have n1 : gIx (nD (c, st)) (.int 1) = some (.val (c7 st)) := rfl
  unfold b4Y at e
  have rv : F.reverse.map c7 = (F.map c7).reverse := List.map_reverse ..
  rw [← hF, rv]
  generalize (l8 w h cs 31).map LD = A at *
  generalize csD cs = C at *
  generalize (G6 (i7 w h cs 30)).map nD = E at *
  generalize ((List.range 31).map fun (k : Nat) => PyData.int (30 - (k : Int))) = R31 at *
  rw [List.map_nil] at e
  generalize F.map c7 = F1 at *
  refine b9 (ρ1 := [some (.val (c7 ((w : Int), (h : Int)))), some (.val C), some (.own A), some (.own E), none, none, none, none, none, none, none]) (S1 := S') (by simp [ne]) ?_
  refine b9 (ρ1 := [some (.val (c7 ((w : Int), (h : Int)))), some (.val C), some (.own A), some (.own E), some (.val (c7 st)), none, none, none, none, none, none]) (S1 := S') (by simp [mn, n1]) ?_
  refine b9 (ρ1 := [some (.val (c7 ((w : Int), (h : Int)))), some (.val C), some (.own A), some (.own E), some (.val (c7 st)), some (.own []), none, none, none, none, none]) (S1 := S') (by simp) ?_
  refine b9 (ρ1 := [some (.val (c7 ((w : Int), (h : Int)))), some (.val C), some (.own A), some (.own E), some (.val d), some (.own F1), y6, y7, y8, y9, y10]) (S1 := S') (by simp [gr, e]) ?_
  simp
end
end BV
namespace BV
open PySem L2
def b0a (ls : List (Str × Int)) (u : Nat) : Nat := ls.countP fun p => decide (p.2 = (u : Int))
def O6 (ls : List (Str × Int)) : List Nat := (List.range 32).map (b0a ls)
theorem a1B (ls : List (Str × Int)) : (O6 ls).length = 32 := by unfold O6; simp
theorem a0O {ls : List (Str × Int)} {u : Nat} (h : u < 32) : ct (O6 ls) u = (b0a ls u : Int) := by
 unfold ct O6
 rw [List.getElem?_map, List.getElem?_range h]
 rfl
theorem b9N {ls : List (Str × Int)} (u : Nat) : ct (O6 ls) u ≤ (ls.length : Int) := by
 by_cases h : u < 32
 ·rw [a0O h]
  have : b0a ls u ≤ ls.length := List.countP_le_length
  omega
 ·unfold ct
  rw [List.getElem?_eq_none (by rw [a1B]; omega)]
  simp
section
variable {S : Sto}
theorem a5A {ls : List (Str × Int)} (hl : ∀ p ∈ ls, 1 ≤ p.2 ∧ p.2 ≤ 30) :
  w5 [.val (.list (ls.map ltD))] S = .ok (.own ((O6 ls).map fun (n : Nat) => PyData.int (n : Int))) S := by
 obtain ⟨ρ', e, y2, y3, rfl⟩ := P9 (b := a0S 2 (o8 (f9 2) (o8 (f9 3) a1K))) (body := K0) (S := S) ltD (fun (g : Nat → Nat) (p : Str × Int) => fun u => if p.2 = (u : Int) then g u + 1 else g u)
  (fun g ρ => ∃ y2 y3, ρ = [some (.val (.list (ls.map ltD))), some (.own ((List.range 32).map fun (u : Nat) => PyData.int ((g u : Nat) : Int))), y2, y3]) ls (fun _ => 0)
  [some (.val (.list (ls.map ltD))), some (.own ((List.range 32).map fun (u : Nat) => PyData.int ((0 : Nat) : Int))), none, none] ⟨none, none, rfl⟩ (by
   rintro ⟨x, i⟩ hx g ρ ⟨y2, y3, rfl⟩
   obtain ⟨i1, i2⟩ := hl _ hx
   replace i1 : 1 ≤ i := i1
   replace i2 : i ≤ 30 := i2
   refine ⟨[some (.val (.list (ls.map ltD))), some (.own ((List.range 32).map fun (u : Nat) => PyData.int ((g u : Nat) : Int))), some (.val (.str x)), some (.val (.int i))], rfl, _, ?_, some (.val (.str x)), some (.val (.int i)), rfl⟩
   have hi : i.toNat < 32 := by omega
   have ix : ixN ((List.range 32).map fun (u : Nat) => PyData.int ((g u : Nat) : Int)).length i = some i.toNat := by
    rw [List.length_map, List.length_range]
    exact X9 (by omega) (by omega)
   have at1 : ((List.range 32).map fun (u : Nat) => PyData.int ((g u : Nat) : Int))[i.toNat]? = some (.int ((g i.toNat : Nat) : Int)) := by
    rw [List.getElem?_map, List.getElem?_range hi]
    rfl
   have st : ((List.range 32).map fun (u : Nat) => PyData.int ((g u : Nat) : Int)).set i.toNat (.int (((g i.toNat : Nat) : Int) + 1)) = (List.range 32).map fun (u : Nat) => PyData.int (((if i = (u : Int) then g u + 1 else g u : Nat) : Nat) : Int) := by
    refine List.ext_getElem? fun j => ?_
    rw [List.getElem?_set, List.length_map, List.length_range, List.getElem?_map, List.getElem?_map]
    by_cases hj : j < 32
    ·rw [List.getElem?_range hj]
     by_cases q : i.toNat = j
     ·rw [if_pos q, if_pos (by omega)]
      simp only [Option.map_some]
      rw [if_pos (by omega), q]
      rfl
     ·rw [if_neg q]
      simp only [Option.map_some]
      rw [if_neg (by omega)]
    ·rw [if_neg (by omega), List.getElem?_eq_none (by rw [List.length_range]; omega)]
     rfl
   unfold K0 a9a
   generalize (List.range 32).map (fun (u : Nat) => PyData.int (((if i = (u : Int) then g u + 1 else g u : Nat) : Nat) : Int)) = B at *
   generalize (List.range 32).map (fun (u : Nat) => PyData.int ((g u : Nat) : Int)) = A at *
   generalize ls.map ltD = LS at *
   simp [ix, at1, st])
 have key : ∀ (ls : List (Str × Int)) (g : Nat → Nat), ls.foldl (fun (g : Nat → Nat) (p : Str × Int) => fun (u : Nat) => if p.2 = (u : Int) then g u + 1 else g u) g = fun u => g u + b0a ls u := by
  intro ls
  induction ls with
  | nil => intro g; funext u; rfl
  | cons p ls ih =>
   intro g
   rw [List.foldl_cons, ih]
   funext u
   unfold b0a
   rw [List.countP_cons]
   by_cases q : p.2 = (u : Int)
   ·rw [if_pos q, if_pos (decide_eq_true q)]; omega
   ·rw [if_neg q, if_neg (by simpa using q)]
    omega
 rw [key] at e
 have m0 : C5 (.list [.int 0]) (.int 32) = some (.own ((List.range 32).map fun (u : Nat) => PyData.int ((0 : Nat) : Int))) := by rfl
 have e0 : ((List.range 32).map fun (u : Nat) => PyData.int ((0 + b0a ls u : Nat) : Int)) = (O6 ls).map fun (n : Nat) => PyData.int (n : Int) := by
  unfold O6
  rw [List.map_map]
  refine List.map_congr_left fun u _ => ?_
  simp
 rw [e0] at e
 unfold w5
 refine F7 ?_
 unfold N2
 generalize (O6 ls).map (fun (n : Nat) => PyData.int (n : Int)) = C at *
 generalize (List.range 32).map (fun (u : Nat) => PyData.int ((0 : Nat) : Int)) = Z at *
 generalize ls.map ltD = LS at *
 refine b9 (ρ1 := [some (.val (.list LS)), some (.own Z), none, none]) (S1 := S) (by simp [m0]) ?_
 refine b9 (ρ1 := [some (.val (.list LS)), some (.own C), y2, y3]) (S1 := S) (by simp [e]) ?_
 simp
end
theorem b2t {α : Type} {xs : List α} {f : Nat} : Z2 xs (some (f : Int)) none = xs.drop f := by
 by_cases h : f ≤ xs.length
 ·exact a0q h
 ·unfold Z2
  rw [HT.sIx_nat, HT.sIx_none, Nat.min_eq_right (by omega), List.drop_length, List.drop_eq_nil_of_le (by omega)]
  exact List.take_nil
theorem b7e {α : Type} {xs : List α} {f : Nat} (h : f ≤ xs.length) : Z2 xs none (some (f : Int)) = xs.take f := by
 rw [a5W, Nat.min_eq_left h]
def nmW (ls : List (Str × Int)) (u : Nat) : List Str := (ls.filter fun p => decide (p.2 = (u : Int))).map (·.1)
theorem N8 (ls : List (Str × Int)) (u : Nat) : (nmW ls u).length = b0a ls u := by
 unfold nmW b0a
 rw [List.length_map, List.countP_eq_length_filter]
def mW (wy : List (Nat × Nat)) (u : Nat) : Nat := (wy[u]?.getD (0, 0)).1
def lW (wy : List (Nat × Nat)) (u : Nat) : Nat := (wy[u]?.getD (0, 0)).2
section
variable (w : Nat) (ls : List (Str × Int)) (wy : List (Nat × Nat))
def B0 : Nat → List Str
 | 0 => []
 | u + 1 => (nmW ls (u + 1)).drop (lW wy (u + 1) + (w * mW wy (u + 1) - (B0 u).length))
def a6P (u : Nat) : List Str := ((nmW ls (u + 1)).drop (lW wy (u + 1))).take (w * mW wy (u + 1) - (B0 w ls wy u).length)
def a4L (u : Nat) : List (Str × Int) := (B0 w ls wy u).map (fun x => (x, (-1 : Int))) ++ (a6P w ls wy u).map fun x => (x, (0 : Int))
def P3 (u : Nat) : List (Str × Int) := ((nmW ls u).take (lW wy u)).map fun x => (x, (1 : Int))
def m5 (n j : Nat) : List (Str × Int) := (if 1 ≤ j ∧ j ≤ n then a4L w ls wy (j - 1) else []) ++ (if j + 1 ≤ n then P3 ls wy (j + 1) else [])
end
structure b9m (w : Nat) (ls : List (Str × Int)) (wy : List (Nat × Nat)) : Prop where
 len : wy.length = 31
 room : ∀ u, u < 30 → (B0 w ls wy u).length ≤ w * mW wy (u + 1)
 lent : ∀ u, u ≤ 30 → lW wy u ≤ b0a ls u
def wyD (wy : List (Nat × Nat)) : D := .list (wy.map fun p => c7 ((p.1 : Int), (p.2 : Int)))
def b5W (w : Nat) (ls : List (Str × Int)) (wy : List (Nat × Nat)) (F : List (List (Str × Int))) (wt : List Str) (y5 y6 y7 y8 y9 y10 y11 : Option T) : En :=
 [some (.val (.int (w : Int))), some (.val (.list (ls.map ltD))), some (.val (wyD wy)), some (.own2 (F.map fun l => l.map ltD)), some (.own (wt.map PyData.str)), y5, y6, y7, y8, y9, y10, y11]
def m4 (w : Nat) (ls : List (Str × Int)) (wy : List (Nat × Nat)) (n : Nat) : List (List (Str × Int)) := (List.range 33).map (m5 w ls wy n)
section
variable {S : Sto} {w : Nat} {ls : List (Str × Int)} {wy : List (Nat × Nat)}
theorem a1c {F : List (List (Str × Int))} {ρ : En} {fa : SE} {fs : SE} {k : Nat} {a b : List (Str × Int)} (h3 : ρ[3]? = some (some (.own2 (F.map fun l => l.map ltD)))) (ha : fa ρ S = .ok (.val (.int (k : Int))) S) (hF : F[k]? = some a) (hf : fs ρ S = .ok (.own (b.map ltD)) S) (hl : a.length + b.length ≤ 90000) :
  a4z 3 fa u8 (i8 fs A9) ρ S = .nx (ρ.set 3 (some (.own2 ((F.set k (a ++ b)).map fun l => l.map ltD)))) S := by
 have hk := (List.getElem?_eq_some_iff.mp hF).1
 have ix : ixN (F.map fun l => l.map ltD).length (k : Int) = some k := by
  rw [List.length_map, X9 (by omega) (by omega)]
  rfl
 have at1 : (F.map fun l => l.map ltD)[k]? = some (a.map ltD) := by rw [List.getElem?_map, hF]; rfl
 have ex : u8 (a.map ltD) [.list (b.map ltD)] = some ((a ++ b).map ltD, .none) := by
  show (if (a.map ltD).length + (b.map ltD).length ≤ sizeLine then some (a.map ltD ++ b.map ltD, PyData.none) else none) = _
  rw [if_pos (by rw [List.length_map, List.length_map]; exact p6 (by omega)), List.map_append]
 have st : (F.map fun l => l.map ltD).set k ((a ++ b).map ltD) = (F.set k (a ++ b)).map fun l => l.map ltD := (List.map_set ..).symm
 rw [← st]
 unfold a4z
 rw [h3]
 generalize (a ++ b).map ltD = AB at *
 generalize a.map ltD = A at *
 generalize b.map ltD = B at *
 generalize (F.map fun l => l.map ltD) = FD at *
 simp [ha, ix, at1, hf, ex]
theorem a1r {c : Int} {xs : List Str} {ρ : En} {src : SI} {elt : SE} (hs : src ρ S = .ok (xs.map PyData.str) S) (he : ∀ x, ∃ ρ1, f9 10 (PyData.str x) (q8 ρ [10]) = some ρ1 ∧ elt ρ1 S = .ok (.val (ltD (x, c))) S) :
  cLc src (f9 10) a0w elt [10] ρ S = .ok (.own ((xs.map fun x => (x, c)).map ltD)) S := by
 rw [b9U, hs]
 simp only [M4]
 have := a7f (S := S) (b := f9 10) (tt := a0w) (elt := elt) (ρ := q8 ρ [10]) PyData.str (fun _ => true) (fun x => ltD (x, c)) xs fun x _ => by
  obtain ⟨ρ1, e1, e2⟩ := he x
  exact ⟨ρ1, _, e1, rfl, e2, rfl⟩
 rw [this]
 rw [List.filter_eq_self.mpr (fun _ _ => rfl)]
 simp only [M4, List.map_map]
 rfl
theorem G2 {n j : Nat} (h : j < 33) : (m4 w ls wy n)[j]? = some (m5 w ls wy n j) := by
 unfold m4
 rw [List.getElem?_map, List.getElem?_range h]
 rfl
theorem a4U {n : Nat} (h : n < 30) : (((m4 w ls wy n).set n (m5 w ls wy n n ++ P3 ls wy (n + 1))).set (n + 1) ([] ++ (B0 w ls wy n).map (fun x => (x, (-1 : Int))))).set (n + 1) (([] ++ (B0 w ls wy n).map (fun x => (x, (-1 : Int)))) ++ (a6P w ls wy n).map fun x => (x, (0 : Int))) = m4 w ls wy (n + 1) := by
 have hl : (m4 w ls wy n).length = 33 := by unfold m4; simp
 refine List.ext_getElem? fun j => ?_
 rw [List.getElem?_set, List.getElem?_set, List.getElem?_set, List.length_set, List.length_set, hl]
 by_cases hj : j < 33
 ·rw [G2 hj, G2 hj]
  by_cases q : n + 1 = j
  ·subst q
   rw [if_pos rfl, if_pos hj]
   unfold m5 a4L
   rw [if_pos ⟨by omega, by omega⟩, if_neg (by omega), List.append_nil, List.nil_append]
   rfl
  ·rw [if_neg q, if_neg q]
   by_cases q2 : n = j
   ·subst q2
    rw [if_pos rfl, if_pos hj]
    unfold m5
    rw [if_neg (by omega : ¬ n + 1 ≤ n), if_pos (Nat.le_refl _), List.append_nil]
    by_cases q3 : 1 ≤ n
    ·rw [if_pos ⟨q3, Nat.le_refl _⟩, if_pos ⟨q3, by omega⟩]
    ·rw [if_neg (fun z => q3 z.1), if_neg (fun z => q3 z.1)]
   ·rw [if_neg q2]
    unfold m5
    have e1 : (1 ≤ j ∧ j ≤ n) ↔ (1 ≤ j ∧ j ≤ n + 1) := by omega
    have e2 : (j + 1 ≤ n) ↔ (j + 1 ≤ n + 1) := by omega
    simp only [e1, e2]
 ·have e1 : ∀ m, (m4 w ls wy m)[j]? = none := fun m => List.getElem?_eq_none (by unfold m4; simp; omega)
  rw [e1, e1, if_neg (by omega), if_neg (by omega), if_neg (by omega)]
theorem a95 (k : b9m w ls wy) (hw : w ≤ 100) (hls : ls.length ≤ 100) (hm : ∀ u, mW wy u ≤ 100) {n : Nat} (hn : n < 30) {y6 y7 y8 y9 y10 y11 : Option T} :
  ∃ z6 z7 z8 z9, B3 (b5W w ls wy (m4 w ls wy n) (B0 w ls wy n) (some (.val (.int ((n + 1 : Nat) : Int)))) y6 y7 y8 y9 y10 y11) S = .nx (b5W w ls wy (m4 w ls wy (n + 1)) (B0 w ls wy (n + 1)) (some (.val (.int ((n + 1 : Nat) : Int)))) z6 z7 z8 z9 y10 y11) S := by
 have hlen := k.len
 have hlen2 : n + 1 < wy.length := by omega
 have ew : wy[n + 1]? = some (mW wy (n + 1), lW wy (n + 1)) := by
  unfold mW lW
  rw [List.getElem?_eq_getElem hlen2]
  rfl
 have i1 : gIx (wyD wy) (.int ((n + 1 : Nat) : Int)) = some (.val (c7 ((mW wy (n + 1) : Int), (lW wy (n + 1) : Int)))) := by
  unfold wyD
  rw [C2, u9 (by rw [List.getElem?_map, ew]; rfl)]
  rfl
 have hlc := k.lent (n + 1) (by omega)
 rw [← N8] at hlc
 have hroom := k.room n hn
 have hnl : (nmW ls (n + 1)).length ≤ 100 := by rw [N8]; exact Nat.le_trans List.countP_le_length hls
 have hmm := hm (n + 1)
 have wtl : ∀ n, (B0 w ls wy n).length ≤ 100 := fun n => by
  cases n with
  | zero => exact Nat.zero_le _
  | succ n =>
   show ((nmW ls (n + 1)).drop _).length ≤ 100
   rw [List.length_drop]
   have : (nmW ls (n + 1)).length ≤ 100 := by rw [N8]; exact Nat.le_trans List.countP_le_length hls
   omega
 have ml : C5 (.int (w : Int)) (.int (mW wy (n + 1) : Int)) = some (.val (.int ((w : Int) * (mW wy (n + 1) : Int)))) := a06 (V8 (by omega) (by omega)) (V8 (by omega) (by omega))
 have nmc : ∀ {a0 a2 a3 a4 a6 a7 a8 a9 a10 a11 : Option T},
   cLc (a0X (b7 1)) (a0S 2 (o8 (f9 10) (o8 (f9 11) a1K))) (cB (d9 (gEq false) (b7 11) (b7 5))) (m7 10) [10, 11] [a0, some (.val (.list (ls.map ltD))), a2, a3, a4, some (.val (.int ((n + 1 : Nat) : Int))), a6, a7, a8, a9, a10, a11] S = .ok (.own ((nmW ls (n + 1)).map PyData.str)) S := fun {a0 a2 a3 a4 a6 a7 a8 a9 a10 a11} => by
  have := a7f (S := S) (b := a0S 2 (o8 (f9 10) (o8 (f9 11) a1K))) (tt := cB (d9 (gEq false) (b7 11) (b7 5))) (elt := m7 10) (ρ := [a0, some (.val (.list (ls.map ltD))), a2, a3, a4, some (.val (.int ((n + 1 : Nat) : Int))), a6, a7, a8, a9, none, none]) ltD (fun p => decide (p.2 = ((n + 1 : Nat) : Int))) (fun p => PyData.str p.1) ls fun p _ => by
   refine ⟨_, .val (.str p.1), rfl, ?_, rfl, rfl⟩
   generalize ((n + 1 : Nat) : Int) = N1
   simp
  rw [b9U]
  have e0 : (a0X (b7 1)) [a0, some (.val (.list (ls.map ltD))), a2, a3, a4, some (.val (.int ((n + 1 : Nat) : Int))), a6, a7, a8, a9, a10, a11] S = .ok (ls.map ltD) S := rfl
  rw [e0]
  simp only [M4]
  rw [show q8 [a0, some (.val (.list (ls.map ltD))), a2, a3, a4, some (.val (.int ((n + 1 : Nat) : Int))), a6, a7, a8, a9, a10, a11] [10, 11] = [a0, some (.val (.list (ls.map ltD))), a2, a3, a4, some (.val (.int ((n + 1 : Nat) : Int))), a6, a7, a8, a9, none, none] from rfl, this]
  unfold nmW
  simp only [M4, List.map_map]
  rfl
 have hfl : (m4 w ls wy n).length = 33 := by unfold m4; simp
 have g0 := G2 (w := w) (ls := ls) (wy := wy) (n := n) (j := n) (by omega)
 have g1 := G2 (w := w) (ls := ls) (wy := wy) (n := n) (j := n + 1) (by omega)
 have f1 : m5 w ls wy n (n + 1) = [] := by
  unfold m5
  rw [if_neg (by omega), if_neg (by omega)]
  rfl
 rw [f1] at g1
 have f0l : (m5 w ls wy n n).length ≤ 300 := by
  unfold m5
  rw [if_neg (by omega : ¬ n + 1 ≤ n), List.append_nil]
  split
  ·unfold a4L a6P
   rw [List.length_append, List.length_map, List.length_map, List.length_take, List.length_drop]
   have := wtl (n - 1)
   have : (nmW ls (n - 1 + 1)).length ≤ 100 := by rw [N8]; exact Nat.le_trans List.countP_le_length hls
   omega
  ·exact Nat.zero_le _
 have own0 : ((w : Int) * (mW wy (n + 1) : Int)) - ((B0 w ls wy n).length : Int) = ((w * mW wy (n + 1) - (B0 w ls wy n).length : Nat) : Int) := by
  rw [Int.ofNat_sub hroom, Int.natCast_mul]
 have lo : (lW wy (n + 1) : Int) + ((w * mW wy (n + 1) - (B0 w ls wy n).length : Nat) : Int) = ((lW wy (n + 1) + (w * mW wy (n + 1) - (B0 w ls wy n).length) : Nat) : Int) := by omega
 have lenw : a2g [.list ((B0 w ls wy n).map PyData.str)] = some (.val (.int ((B0 w ls wy n).length : Int))) := by rw [v7, List.length_map]
 have sl1 : gSl (.list ((nmW ls (n + 1)).map PyData.str)) none (some (lW wy (n + 1) : Int)) = some (.own (((nmW ls (n + 1)).take (lW wy (n + 1))).map PyData.str)) := by
  rw [K4, b7e (by rw [List.length_map]; exact hlc), List.map_take]
 have sl2 : gSl (.list ((nmW ls (n + 1)).map PyData.str)) (some (lW wy (n + 1) : Int)) (some ((lW wy (n + 1) + (w * mW wy (n + 1) - (B0 w ls wy n).length) : Nat) : Int)) = some (.own ((a6P w ls wy n).map PyData.str)) := by
  rw [K4, a7K (by rw [List.length_map]; exact hlc) (by omega), Nat.add_sub_cancel_left]
  unfold a6P
  rw [List.map_take, List.map_drop]
 have sl3 : gSl (.list ((nmW ls (n + 1)).map PyData.str)) (some ((lW wy (n + 1) + (w * mW wy (n + 1) - (B0 w ls wy n).length) : Nat) : Int)) none = some (.own ((B0 w ls wy (n + 1)).map PyData.str)) := by
  rw [K4, b2t]
  show _ = some (T.own (((nmW ls (n + 1)).drop (lW wy (n + 1) + (w * mW wy (n + 1) - (B0 w ls wy n).length))).map PyData.str))
  rw [List.map_drop]
 refine ⟨some (.val (.int (mW wy (n + 1) : Int))), some (.val (.int (lW wy (n + 1) : Int))), some (.own ((nmW ls (n + 1)).map PyData.str)), some (.val (.int ((w * mW wy (n + 1) - (B0 w ls wy n).length : Nat) : Int))), ?_⟩
 unfold B3 b5W
 refine b9 (ρ1 := [some (.val (.int (w : Int))), some (.val (.list (ls.map ltD))), some (.val (wyD wy)), some (.own2 ((m4 w ls wy n).map fun l => l.map ltD)), some (.own ((B0 w ls wy n).map PyData.str)), some (.val (.int ((n + 1 : Nat) : Int))), some (.val (.int (mW wy (n + 1) : Int))), some (.val (.int (lW wy (n + 1) : Int))), y8, y9, y10, y11]) (S1 := S) (by
  generalize ((n + 1 : Nat) : Int) = N1 at *
  generalize wyD wy = WD at *
  generalize ls.map ltD = LS at *
  simp [i1, c7]) ?_
 refine b9 (ρ1 := [some (.val (.int (w : Int))), some (.val (.list (ls.map ltD))), some (.val (wyD wy)), some (.own2 ((m4 w ls wy n).map fun l => l.map ltD)), some (.own ((B0 w ls wy n).map PyData.str)), some (.val (.int ((n + 1 : Nat) : Int))), some (.val (.int (mW wy (n + 1) : Int))), some (.val (.int (lW wy (n + 1) : Int))), some (.own ((nmW ls (n + 1)).map PyData.str)), y9, y10, y11]) (S1 := S) (by
  rw [b4d, b9n, nmc]
  rfl) ?_
 refine b9 (a1c (S := S) (k := n) (a := m5 w ls wy n n) (b := P3 ls wy (n + 1)) rfl (by
   show (R.d (.ok (.val (.int ((n + 1 : Nat) : Int))) S) fun a S1 => R.d (.ok (.val (.int 1)) S1) fun b S2 => match gSub a b with | some t => .ok t S2 | none => .bad) = _
   simp) g0 (by
   unfold P3
   refine a1r (by
    rw [a6f]
    generalize wyD wy = WD at *
    generalize ls.map ltD = LS at *
    generalize (nmW ls (n + 1)).map PyData.str = NM at *
    generalize ((nmW ls (n + 1)).take (lW wy (n + 1))).map PyData.str = NL at *
    simp [sl1]) (fun x => ⟨_, rfl, by simp [ltD]⟩)) (by
   unfold P3
   rw [List.length_map, List.length_take]
   omega)) ?_
 rw [show ∀ (a b c d e f g h i j k l x : Option T), [a, b, c, d, e, f, g, h, i, j, k, l].set 3 x = [a, b, c, x, e, f, g, h, i, j, k, l] from fun _ _ _ _ _ _ _ _ _ _ _ _ _ => rfl]
 refine b9 (a1c (S := S) (k := n + 1) (a := []) (b := (B0 w ls wy n).map (fun x => (x, (-1 : Int)))) rfl (by rfl) (by
   rw [List.getElem?_set, if_neg (by omega), g1]) (by
   refine a1r (by
    rw [a6f]
    generalize wyD wy = WD at *
    generalize ls.map ltD = LS at *
    generalize (nmW ls (n + 1)).map PyData.str = NM at *
    generalize (B0 w ls wy n).map PyData.str = WT at *
    simp) (fun x => ⟨_, rfl, by simp [ltD]⟩)) (by
   rw [List.length_map]
   have := wtl n
   simp
   omega)) ?_
 rw [show ∀ (a b c d e f g h i j k l x : Option T), [a, b, c, d, e, f, g, h, i, j, k, l].set 3 x = [a, b, c, x, e, f, g, h, i, j, k, l] from fun _ _ _ _ _ _ _ _ _ _ _ _ _ => rfl]
 refine b9 (ρ1 := [some (.val (.int (w : Int))), some (.val (.list (ls.map ltD))), some (.val (wyD wy)), some (.own2 ((((m4 w ls wy n).set n (m5 w ls wy n n ++ P3 ls wy (n + 1))).set (n + 1) ([] ++ (B0 w ls wy n).map (fun x => (x, (-1 : Int))))).map fun l => l.map ltD)), some (.own ((B0 w ls wy n).map PyData.str)), some (.val (.int ((n + 1 : Nat) : Int))), some (.val (.int (mW wy (n + 1) : Int))), some (.val (.int (lW wy (n + 1) : Int))), some (.own ((nmW ls (n + 1)).map PyData.str)), some (.val (.int ((w * mW wy (n + 1) - (B0 w ls wy n).length : Nat) : Int))), y10, y11]) (S1 := S) (by
  rw [← own0]
  generalize wyD wy = WD at *
  generalize ls.map ltD = LS at *
  generalize (nmW ls (n + 1)).map PyData.str = NM at *
  generalize (((m4 w ls wy n).set n (m5 w ls wy n n ++ P3 ls wy (n + 1))).set (n + 1) ([] ++ (B0 w ls wy n).map (fun x => (x, (-1 : Int))))).map (fun l => l.map ltD) = FD at *
  generalize (B0 w ls wy n).map PyData.str = WT at *
  simp [ml, lenw, -v7]) ?_
 refine b9 (a1c (S := S) (k := n + 1) (a := [] ++ (B0 w ls wy n).map (fun x => (x, (-1 : Int)))) (b := (a6P w ls wy n).map fun x => (x, (0 : Int))) rfl (by rfl) (by
   rw [List.getElem?_set, if_pos rfl, if_pos (by rw [List.length_set, hfl]; omega)]) (by
   refine a1r (by
    rw [a6f]
    generalize wyD wy = WD at *
    generalize ls.map ltD = LS at *
    generalize (((m4 w ls wy n).set n (m5 w ls wy n n ++ P3 ls wy (n + 1))).set (n + 1) ([] ++ (B0 w ls wy n).map (fun x => (x, (-1 : Int))))).map (fun l => l.map ltD) = FD at *
    generalize (nmW ls (n + 1)).map PyData.str = NM at *
    generalize (B0 w ls wy n).map PyData.str = WT at *
    generalize (a6P w ls wy n).map PyData.str = OW at *
    generalize w * mW wy (n + 1) - (B0 w ls wy n).length = OO at *
    rw [← lo] at sl2
    simp [sl2]) (fun x => ⟨_, rfl, by simp [ltD]⟩)) (by
   rw [List.length_append, List.length_map, List.length_map]
   have := wtl n
   have : (a6P w ls wy n).length ≤ 100 := by
    unfold a6P
    rw [List.length_take, List.length_drop]
    omega
   simp
   omega)) ?_
 rw [show ∀ (a b c d e f g h i j k l x : Option T), [a, b, c, d, e, f, g, h, i, j, k, l].set 3 x = [a, b, c, x, e, f, g, h, i, j, k, l] from fun _ _ _ _ _ _ _ _ _ _ _ _ _ => rfl]
 rw [a4U hn]
 generalize wyD wy = WD at *
 generalize ls.map ltD = LS at *
 generalize (m4 w ls wy (n + 1)).map (fun l => l.map ltD) = FD at *
 generalize (nmW ls (n + 1)).map PyData.str = NM at *
 generalize (B0 w ls wy (n + 1)).map PyData.str = W2 at *
 generalize (B0 w ls wy n).map PyData.str = WT at *
 generalize w * mW wy (n + 1) - (B0 w ls wy n).length = OO at *
 rw [← lo] at sl3
 simp [sl3]
theorem a1H (k : b9m w ls wy) (hw : w ≤ 100) (hls : ls.length ≤ 100) (hm : ∀ u, mW wy u ≤ 100) :
  q9 [.val (.int (w : Int)), .val (.list (ls.map ltD)), .val (wyD wy)] S = .ok (.val (.list ((m4 w ls wy 30).map fun l => .list (l.map ltD)))) S := by
 obtain ⟨ρ', S', e, rfl, y5, y6, y7, y8, y9, rfl⟩ := v5 (b := f9 5) (body := B3) (fun i ρ S' => S' = S ∧ ∃ y5 y6 y7 y8 y9, ρ = b5W w ls wy (m4 w ls wy i) (B0 w ls wy i) y5 y6 y7 y8 y9 none none)
  (j8 1 30) 0 (b5W w ls wy (m4 w ls wy 0) (B0 w ls wy 0) none none none none none none none) S ⟨rfl, none, none, none, none, none, rfl⟩ (by
   rintro i d ρ S' hd ⟨rfl, y5, y6, y7, y8, y9, rfl⟩
   obtain ⟨hi, rfl⟩ := P0 hd
   rw [Nat.zero_add]
   obtain ⟨z6, z7, z8, z9, et⟩ := a95 (S := S') k hw hls hm (n := i) hi (y6 := y6) (y7 := y7) (y8 := y8) (y9 := y9) (y10 := none) (y11 := none)
   rw [Nat.add_comm 1 i]
   exact ⟨_, rfl, _, S', .inl et, rfl, _, z6, z7, z8, z9, rfl⟩)
 rw [Nat.zero_add, y0] at e
 have hlen := k.len
 have gr : a0l [.int 1, .int 31] = some (j8 1 30) := a4C (n := 30) (by omega)
 have f0 : (m4 w ls wy 0).map (fun l => l.map ltD) = List.replicate 31 [] ++ [[], []] := by
  have : m4 w ls wy 0 = List.replicate 33 [] := by
   unfold m4
   rw [List.eq_replicate_iff]
   refine ⟨by simp, fun b hb => ?_⟩
   obtain ⟨j, _, rfl⟩ := List.mem_map.mp hb
   unfold m5
   rw [if_neg (by omega), if_neg (by omega)]
   rfl
  rw [this]
  rfl
 have lc : a88 (a0S 2 (o8 (f9 6) (o8 (f9 7) a1K))) a0w (n9 m6) [some (.val (.int (w : Int))), some (.val (.list (ls.map ltD))), some (.val (wyD wy)), none, none, none, none, none, none, none, none, none] (wy.map fun p => c7 ((p.1 : Int), (p.2 : Int))) S' = .ok (List.replicate 31 []) S' := by
  have key : ∀ (wy' : List (Nat × Nat)), a88 (a0S 2 (o8 (f9 6) (o8 (f9 7) a1K))) a0w (n9 m6) [some (.val (.int (w : Int))), some (.val (.list (ls.map ltD))), some (.val (wyD wy)), none, none, none, none, none, none, none, none, none] (wy'.map fun p => c7 ((p.1 : Int), (p.2 : Int))) S' = .ok (List.replicate wy'.length []) S' := by
   intro wy'
   induction wy' with
   | nil => rfl
   | cons p wy' ih =>
    rw [List.map_cons]
    unfold a88
    have e1 : a0S 2 (o8 (f9 6) (o8 (f9 7) a1K)) (c7 ((p.1 : Int), (p.2 : Int))) [some (.val (.int (w : Int))), some (.val (.list (ls.map ltD))), some (.val (wyD wy)), none, none, none, none, none, none, none, none, none] = some [some (.val (.int (w : Int))), some (.val (.list (ls.map ltD))), some (.val (wyD wy)), none, none, none, some (.val (.int (p.1 : Int))), some (.val (.int (p.2 : Int))), none, none, none, none] := rfl
    rw [e1]
    simp [a0w, ih, List.replicate_succ]
  rw [key, hlen]
 have em : ((m4 w ls wy 30).map (fun l => l.map ltD)).map PyData.list = (m4 w ls wy 30).map fun l => .list (l.map ltD) := by rw [List.map_map]; rfl
 unfold q9
 refine F7 ?_
 unfold H9
 unfold b5W at e
 rw [f0] at e
 have w0 : (B0 w ls wy 0).map PyData.str = [] := rfl
 rw [w0] at e
 have wd : b5y (wyD wy) = some (wy.map fun p => c7 ((p.1 : Int), (p.2 : Int))) := rfl
 rw [← em]
 generalize (m4 w ls wy 30).map (fun l => l.map ltD) = FD at *
 generalize (wy.map fun p => c7 ((p.1 : Int), (p.2 : Int))) = WL at *
 generalize wyD wy = WD at *
 generalize ls.map ltD = LS at *
 generalize (B0 w ls wy 30).map PyData.str = W2 at *
 refine b9 (ρ1 := [some (.val (.int (w : Int))), some (.val (.list LS)), some (.val WD), some (.own2 (List.replicate 31 [] ++ [[], []])), none, none, none, none, none, none, none, none]) (S1 := S') (by
  simp only [b4d, b9n, b7d, b9Z, a6f, b6D, b0N]
  simp [wd, q8, lc]) ?_
 generalize (List.replicate 31 ([] : List D) ++ [[], []]) = Z at *
 refine b9 (ρ1 := [some (.val (.int (w : Int))), some (.val (.list LS)), some (.val WD), some (.own2 Z), some (.own []), none, none, none, none, none, none, none]) (S1 := S') (by simp) ?_
 refine b9 (ρ1 := [some (.val (.int (w : Int))), some (.val (.list LS)), some (.val WD), some (.own2 FD), some (.own W2), y5, y6, y7, y8, y9, none, none]) (S1 := S') (by simp [gr, e]) ?_
 simp
end
end BV
namespace BV
open PySem L2
theorem b18 {α : Type} {xs : List α} {i j : Nat} (hj : i ≤ j) : Z2 xs (some (i : Int)) (some (j : Int)) = (xs.drop i).take (j - i) := by
 by_cases h : i ≤ xs.length
 ·exact a7K h hj
 ·unfold Z2
  rw [HT.sIx_nat, HT.sIx_nat, Nat.min_eq_right (by omega), Nat.min_eq_right (by omega), List.drop_length, List.drop_eq_nil_of_le (by omega), List.take_nil, List.take_nil]
def Y2 (w : Nat) (cells : List (Str × Int)) (k : Nat) : List d7 := ((cells.drop (k * w)).take w).map some ++ List.replicate (w - ((cells.drop (k * w)).take w).length) none
theorem a7M (w : Nat) (cells : List (Str × Int)) (k : Nat) : (Y2 w cells k).length = w := by
 unfold Y2
 rw [List.length_append, List.length_map, List.length_replicate]
 have : ((cells.drop (k * w)).take w).length ≤ w := List.length_take_le ..
 omega
def k7 (r : List d7) : D := .list (r.map o9)
section
variable {S : Sto}
theorem a8G {w m : Nat} {cells : List (Str × Int)} (hw : w ≤ 100) (hm : m ≤ 100) (hc : cells.length ≤ 1000) :
  n6 [.val (.int (w : Int)), .val (.list (cells.map ltD)), .val (.int (m : Int))] S = .ok (.own (((List.range m).map (Y2 w cells)).map k7)) S := by
 obtain ⟨ρ', S', e, rfl, y4, y5, rfl⟩ := v5 (b := f9 4) (body := B9) (fun i ρ S' => S' = S ∧ ∃ y4 y5, ρ = [some (.val (.int (w : Int))), some (.val (.list (cells.map ltD))), some (.val (.int (m : Int))), some (.own (((List.range i).map (Y2 w cells)).map k7)), y4, y5])
  (j8 0 m) 0 [some (.val (.int (w : Int))), some (.val (.list (cells.map ltD))), some (.val (.int (m : Int))), some (.own []), none, none] S ⟨rfl, none, none, rfl⟩ (by
   rintro i d ρ S' hd ⟨rfl, y4, y5, rfl⟩
   obtain ⟨hi, rfl⟩ := G0 hd
   rw [Nat.zero_add]
   have m1 : C5 (.int (i : Int)) (.int (w : Int)) = some (.val (.int ((i * w : Nat) : Int))) := by
    rw [a06 (V8 (by omega) (by omega)) (V8 (by omega) (by omega)), Int.natCast_mul]
   have m2 : C5 (.int ((i : Int) + 1)) (.int (w : Int)) = some (.val (.int (((i + 1) * w : Nat) : Int))) := by
    rw [a06 (V8 (by omega) (by omega)) (V8 (by omega) (by omega)), Int.natCast_mul]
    rfl
   have sl : gSl (.list (cells.map ltD)) (some ((i * w : Nat) : Int)) (some (((i + 1) * w : Nat) : Int)) = some (.own (((cells.drop (i * w)).take w).map ltD)) := by
    have e1 : (i + 1) * w - i * w = w := by rw [Nat.succ_mul]; omega
    rw [K4, b18 (by rw [Nat.succ_mul]; omega), e1, List.map_take, List.map_drop]
   have tl : ((cells.drop (i * w)).take w).length ≤ w := List.length_take_le ..
   have ln : a2g [.list (((cells.drop (i * w)).take w).map ltD)] = some (.val (.int (((cells.drop (i * w)).take w).length : Int))) := by rw [v7, List.length_map]
   have rp : C5 (.list [PyData.none]) (.int ((w : Int) - (((cells.drop (i * w)).take w).length : Int))) = some (.own (List.replicate (w - ((cells.drop (i * w)).take w).length) PyData.none)) := by
    rw [show (w : Int) - (((cells.drop (i * w)).take w).length : Int) = ((w - ((cells.drop (i * w)).take w).length : Nat) : Int) by omega, b1W (by omega) (by simp only [List.length_singleton]; rw [sizeLine_eq]; omega), P5]
   have ad : B2 (.list (((cells.drop (i * w)).take w).map ltD)) (.list (List.replicate (w - ((cells.drop (i * w)).take w).length) PyData.none)) = some (.own ((Y2 w cells i).map o9)) := by
    rw [Y4 (by rw [List.length_map, List.length_replicate, sizeLine_eq]; omega)]
    unfold Y2
    rw [List.map_append, List.map_map, List.map_replicate]
    rfl
   have ap : E4 (((List.range i).map (Y2 w cells)).map k7) [.list ((Y2 w cells i).map o9)] = some (((List.range (i + 1)).map (Y2 w cells)).map k7, .none) := by
    have := a1y k7 (acc := (List.range i).map (Y2 w cells)) (x := Y2 w cells i) (by simp; omega)
    rw [List.range_succ, List.map_append]
    exact this
   refine ⟨_, rfl, [some (.val (.int (w : Int))), some (.val (.list (cells.map ltD))), some (.val (.int (m : Int))), some (.own (((List.range (i + 1)).map (Y2 w cells)).map k7)), some (.val (.int (i : Int))), some (.own (((cells.drop (i * w)).take w).map ltD))], S', .inl ?_, rfl, _, _, rfl⟩
   unfold B9
   generalize ((List.range (i + 1)).map (Y2 w cells)).map k7 = R2 at *
   generalize ((List.range i).map (Y2 w cells)).map k7 = R1 at *
   generalize (Y2 w cells i).map o9 = RD at *
   generalize ((cells.drop (i * w)).take w).length = TL at *
   generalize ((cells.drop (i * w)).take w).map ltD = TK at *
   generalize cells.map ltD = CD at *
   generalize ((i * w : Nat) : Int) = A1 at *
   generalize (((i + 1) * w : Nat) : Int) = A2 at *
   refine b9 (ρ1 := [some (.val (.int (w : Int))), some (.val (.list CD)), some (.val (.int (m : Int))), some (.own R1), some (.val (.int (i : Int))), some (.own TK)]) (S1 := S') (by simp [m1, m2, sl, -K4]) ?_
   simp [ln, rp, ad, ap, -v7])
 rw [Nat.zero_add, y0] at e
 have gr := a0o (n := m) (p6 (by omega))
 unfold n6
 refine F7 ?_
 unfold D3
 generalize ((List.range m).map (Y2 w cells)).map k7 = R at *
 generalize cells.map ltD = CD at *
 refine b9 (ρ1 := [some (.val (.int (w : Int))), some (.val (.list CD)), some (.val (.int (m : Int))), some (.own []), none, none]) (S1 := S') (by simp) ?_
 refine b9 (ρ1 := [some (.val (.int (w : Int))), some (.val (.list CD)), some (.val (.int (m : Int))), some (.own R), y4, y5]) (S1 := S') (by simp [gr, e]) ?_
 simp
def K8 : List d7 → List d7
 | [] => []
 | none :: r => some (blank, 0) :: r
 | some x :: r => some x :: K8 r
def wbP : Bool → List (List d7) → List (List d7)
 | _, [] => []
 | true, r :: rs => r :: wbP true rs
 | false, r :: rs => if none ∈ r then K8 r :: wbP true rs else r :: wbP false rs
theorem b2x (rs : List (List d7)) : wbP true rs = rs := by
 induction rs with
 | nil => rfl
 | cons r rs ih => show r :: wbP true rs = _; rw [ih]
theorem a7h (c : d7) : PyData.eqv (o9 c) .none = c.isNone := by
 cases c with
 | none => rfl
 | some p => obtain ⟨x, i⟩ := p; rfl
theorem a6V (r : List d7) : I7 (.list (r.map o9)) = true := (a09 o9 b16 (fun c => Nat.le_trans (b2o c) (by omega)) r).1
theorem b1Q (r : List d7) : gIn false .none (.list (r.map o9)) = some (.val (.bool (decide (none ∈ r)))) := by
 rw [b65 rfl (a6V r)]
 congr 3
 rw [if_neg (by simp), Bool.eq_iff_iff, List.any_eq_true, decide_eq_true_eq]
 constructor
 ·rintro ⟨d, hd, e⟩
  obtain ⟨c, hc, rfl⟩ := List.mem_map.mp hd
  rw [a7h] at e
  cases c with
  | none => exact hc
  | some _ => cases e
 ·exact fun h => ⟨_, List.mem_map.mpr ⟨none, h, rfl⟩, rfl⟩
theorem a00 : ∀ {r : List d7}, none ∈ r → ∃ j, I5 .none (r.map o9) = some j ∧ (r.map o9).set j (o9 (some (blank, 0))) = (K8 r).map o9 ∧ j < r.length
 | [], h => nomatch h
 | none :: r, _ => ⟨0, rfl, rfl, by simp⟩
 | some p :: r, h => by
  have h' : none ∈ r := by
   rcases List.mem_cons.mp h with e | h
   ·cases e
   ·exact h
  obtain ⟨j, e1, e2, e3⟩ := a00 h'
  refine ⟨j + 1, ?_, ?_, by rw [List.length_cons]; omega⟩
  ·rw [List.map_cons]
   unfold I5
   rw [a7h]
   simp [e1]
  ·rw [List.map_cons, List.set_cons_succ, e2]
   rfl
theorem a8D {rows : List (List d7)} (hr : rows.length ≤ 100) (hrl : ∀ r ∈ rows, r.length ≤ 100) :
  v4 [.val (.list (rows.map k7))] S = .ok (.val (.tuple ((wbP false rows).map U9))) S := by
 have run : ∀ (rs : List (List d7)) (done : List (List d7)) (b : Bool) (y3 y4 : Option T), done.length + rs.length ≤ 100 → (∀ r ∈ rs, r.length ≤ 100) →
   ∃ b' z3 z4, a7J (f9 3) s9 (rs.map k7) [some (.val (.list (rows.map k7))), some (.own (done.map U9)), some (.val (.bool b)), y3, y4] S = .nx [some (.val (.list (rows.map k7))), some (.own ((done ++ wbP b rs).map U9)), some (.val (.bool b')), z3, z4] S := by
  intro rs
  induction rs with
  | nil =>
   intro done b y3 y4 _ _
   refine ⟨b, y3, y4, ?_⟩
   have : wbP b [] = [] := by cases b <;> rfl
   rw [this, List.append_nil]
   rfl
  | cons r rs ih =>
   intro done b y3 y4 hl hrl
   rw [List.length_cons] at hl
   have turn : ∃ (r' : List d7) (b' : Bool) (z4 : Option T), wbP b (r :: rs) = r' :: wbP b' rs ∧ s9 [some (.val (.list (rows.map k7))), some (.own (done.map U9)), some (.val (.bool b)), some (.val (k7 r)), y4] S = .nx [some (.val (.list (rows.map k7))), some (.own ((done ++ [r']).map U9)), some (.val (.bool b')), some (.val (k7 r)), z4] S := by
    have li : a8Z [k7 r] = some (.own (r.map o9)) := rfl
    have ap : ∀ r', E4 (done.map U9) [.tuple (r'.map o9)] = some ((done ++ [r']).map U9, .none) := fun r' => a1y U9 (x := r') (by omega)
    have nr := b1Q r
    have plain : b = true ∨ none ∉ r → s9 [some (.val (.list (rows.map k7))), some (.own (done.map U9)), some (.val (.bool b)), some (.val (k7 r)), y4] S = .nx [some (.val (.list (rows.map k7))), some (.own ((done ++ [r]).map U9)), some (.val (.bool b)), some (.val (k7 r)), some (.own (r.map o9))] S := fun hb => by
     have ap := ap r
     unfold s9
     generalize (done ++ [r]).map U9 = D2 at *
     generalize done.map U9 = D1 at *
     generalize rows.map k7 = RD at *
     generalize r.map o9 = RC at *
     generalize k7 r = RL at *
     refine b9 (ρ1 := [some (.val (.list RD)), some (.own D1), some (.val (.bool b)), some (.val RL), some (.own RC)]) (S1 := S) (by simp [li]) ?_
     refine b9 (ρ1 := [some (.val (.list RD)), some (.own D1), some (.val (.bool b)), some (.val RL), some (.own RC)]) (S1 := S) ?_ (by simp [ap])
     rcases hb with rfl | hb
     ·simp
     ·cases b with
      | true => simp
      | false => simp [nr, hb]
    cases b with
    | true => exact ⟨r, true, _, rfl, plain (.inl rfl)⟩
    | false =>
     by_cases hn : none ∈ r
     ·obtain ⟨j, e1, e2, e3⟩ := a00 hn
      refine ⟨K8 r, true, some (.own ((K8 r).map o9)), by show (if none ∈ r then _ else _) = _; rw [if_pos hn], ?_⟩
      have ix : a15 (.list (r.map o9)) [.none] = some (.val (.int (j : Int))) := by
       show (if I7 (.list (r.map o9)) && I7 .none then (I5 .none (r.map o9)).map fun j => T.val (.int (j : Nat)) else none) = _
       rw [a6V, e1]
       rfl
      have ij : ixN (r.map o9).length (j : Int) = some j := by
       rw [List.length_map, X9 (by omega) (by omega)]
       rfl
      have bl : PyData.tuple [.str " ", .int 0] = o9 (some (blank, 0)) := rfl
      have ap := ap (K8 r)
      rw [decide_eq_true hn] at nr
      unfold s9
      generalize (done ++ [K8 r]).map U9 = D2 at *
      generalize done.map U9 = D1 at *
      generalize rows.map k7 = RD at *
      generalize (K8 r).map o9 = RF at *
      generalize r.map o9 = RC at *
      generalize k7 r = RL at *
      generalize o9 (some (blank, 0)) = BD at *
      refine b9 (ρ1 := [some (.val (.list RD)), some (.own D1), some (.val (.bool false)), some (.val RL), some (.own RC)]) (S1 := S) (by simp [li]) ?_
      refine b9 (ρ1 := [some (.val (.list RD)), some (.own D1), some (.val (.bool true)), some (.val RL), some (.own RF)]) (S1 := S) ?_ (by simp [ap])
      refine a7d (S1 := S) (by simp [nr]) ?_
      simp [ix, ij, bl, e2]
     ·exact ⟨r, false, _, by show (if none ∈ r then _ else _) = _; rw [if_neg hn], plain (.inr hn)⟩
   obtain ⟨r', b', z4, ew, et⟩ := turn
   obtain ⟨b2, z3, z4', e2⟩ := ih (done ++ [r']) b' (some (.val (k7 r))) z4 (by rw [List.length_append]; simp; omega) fun q hq => hrl q (List.mem_cons_of_mem _ hq)
   refine ⟨b2, z3, z4', ?_⟩
   rw [List.map_cons]
   unfold a7J
   rw [show f9 3 (k7 r) [some (.val (.list (rows.map k7))), some (.own (done.map U9)), some (.val (.bool b)), y3, y4] = some [some (.val (.list (rows.map k7))), some (.own (done.map U9)), some (.val (.bool b)), some (.val (k7 r)), y4] from rfl]
   simp only [et, e2, ew]
   rw [List.append_assoc]
   rfl
 obtain ⟨b', z3, z4, e⟩ := run rows [] false none none (by simpa using hr) hrl
 rw [List.nil_append, List.map_nil] at e
 unfold v4
 refine F7 ?_
 unfold K6
 generalize (wbP false rows).map U9 = W at *
 generalize rows.map k7 = RD at *
 refine b9 (ρ1 := [some (.val (.list RD)), some (.own []), none, none, none]) (S1 := S) (by simp) ?_
 refine b9 (ρ1 := [some (.val (.list RD)), some (.own []), some (.val (.bool false)), none, none]) (S1 := S) (by simp) ?_
 refine b9 (ρ1 := [some (.val (.list RD)), some (.own W), some (.val (.bool b')), z3, z4]) (S1 := S) (by simp [e]) ?_
 simp
end
end BV
namespace BV
open PySem L2
structure b6V (w h : Int) (cs : List Nat) (ps : List (Int × Int)) (sts : Nat → Int × Int) (cc : Nat → Int) (v : Nat) (m l a dc : Int) : Prop where
 get : ps[v]? = some (m, l)
 m0 : 0 ≤ m
 l0 : 0 ≤ l
 mh : (sts v).1 + m ≤ h
 lc : l ≤ ct cs (v + 1)
 ls : l ≤ max 0 (sts v).2
 on : onP w (ct cs (v + 1)) (ct cs (v + 2)) (sts v).2 m l = some (a, dc)
 nx : sts (v + 1) = ((sts v).1 + m, a)
 nc : cc (v + 1) = cc v + dc
theorem Way.idx {w h : Int} {cs : List Nat} {u : Nat} {st : Int × Int} {c : Int} {ps : List (Int × Int)} (y : Way w h cs u st c ps) :
  ps.length = u ∧ ∃ (sts : Nat → Int × Int) (cc : Nat → Int), sts 0 = (0, 0) ∧ cc 0 = 0 ∧ sts u = st ∧ cc u = c ∧ ∀ v < u, ∃ m l a dc, b6V w h cs ps sts cc v m l a dc := by
 induction y with
 | zero => exact ⟨rfl, fun _ => (0, 0), fun _ => 0, rfl, rfl, rfl, rfl, fun v hv => by omega⟩
 | @succ u st c ps m l a dc y m0 l0 mh lc ls eo ih =>
  obtain ⟨hl, sts, cc, h0, c0, hu, cu, hst⟩ := ih
  refine ⟨by rw [List.length_append, hl]; rfl, fun v => if v = u + 1 then (st.1 + m, a) else sts v, fun v => if v = u + 1 then c + dc else cc v, ?_, ?_, if_pos rfl, if_pos rfl, fun v hv => ?_⟩
  ·show (if 0 = u + 1 then _ else sts 0) = _
   rw [if_neg (by omega)]; exact h0
  ·show (if 0 = u + 1 then _ else cc 0) = _
   rw [if_neg (by omega)]; exact c0
  ·by_cases q : v = u
   ·subst q
    refine ⟨m, l, a, dc, ⟨by rw [List.getElem?_append_right (by omega), hl]; simp, m0, l0, ?_, lc, ?_, ?_, ?_, ?_⟩⟩
    ·show (if v = v + 1 then _ else sts v).1 + m ≤ h
     rw [if_neg (by omega), hu]; exact mh
    ·show l ≤ max 0 (if v = v + 1 then _ else sts v).2
     rw [if_neg (by omega), hu]; exact ls
    ·show onP w _ _ (if v = v + 1 then _ else sts v).2 m l = _
     rw [if_neg (by omega), hu]; exact eo
    ·show (if v + 1 = v + 1 then _ else _) = ((if v = v + 1 then _ else sts v).1 + m, a)
     rw [if_pos rfl, if_neg (by omega), hu]
    ·show (if v + 1 = v + 1 then _ else _) = (if v = v + 1 then _ else cc v) + dc
     rw [if_pos rfl, if_neg (by omega), cu]
   ·obtain ⟨m', l', a', dc', g, g1, g2, g3, g4, g5, g6, g7, g8⟩ := hst v (by omega)
    refine ⟨m', l', a', dc', ⟨by rw [List.getElem?_append_left (by omega)]; exact g, g1, g2, ?_, g4, ?_, ?_, ?_, ?_⟩⟩
    ·show (if v = u + 1 then _ else sts v).1 + m' ≤ h
     rw [if_neg (by omega)]; exact g3
    ·show l' ≤ max 0 (if v = u + 1 then _ else sts v).2
     rw [if_neg (by omega)]; exact g5
    ·show onP w _ _ (if v = u + 1 then _ else sts v).2 m' l' = _
     rw [if_neg (by omega)]; exact g6
    ·show (if v + 1 = u + 1 then _ else sts (v + 1)) = ((if v = u + 1 then _ else sts v).1 + m', a')
     rw [if_neg (by omega), if_neg (by omega)]; exact g7
    ·show (if v + 1 = u + 1 then _ else cc (v + 1)) = (if v = u + 1 then _ else cc v) + dc'
     rw [if_neg (by omega), if_neg (by omega)]; exact g8
def a0C (ps : List (Int × Int)) : List (Nat × Nat) := (0, 0) :: ps.map fun p => (p.1.toNat, p.2.toNat)
structure a7j (w h : Nat) (ls : List (Str × Int)) (wy : List (Nat × Nat)) (c : Int) : Prop where
 ok : b9m w ls wy
 fit : ∀ j, 1 ≤ j → j ≤ 30 → (m5 w ls wy 30 j).length ≤ w * mW wy j
 rows : ((List.range 30).map fun u => mW wy (u + 1)).sum ≤ h
 cams : c = ((((List.range 30).map fun u => (B0 w ls wy u).length + lW wy (u + 1)).sum : Nat) : Int)
 end_ : B0 w ls wy 30 = []
 first : lW wy 1 = 0
 zero : mW wy 0 = 0
theorem a2y {ps : List (Int × Int)} {v : Nat} {m l : Int} (h : ps[v]? = some (m, l)) : mW (a0C ps) (v + 1) = m.toNat ∧ lW (a0C ps) (v + 1) = l.toNat := by
 unfold mW lW a0C
 rw [List.getElem?_cons_succ, List.getElem?_map, h]
 exact ⟨rfl, rfl⟩
theorem b7r {w h : Nat} {ls : List (Str × Int)} {st : Int × Int} {c : Int} {ps : List (Int × Int)} (y : Way (w : Int) (h : Int) (O6 ls) 30 st c ps) (hs : 0 ≤ st.2) (hh : st.1 ≤ (h : Int)) : a7j w h ls (a0C ps) c := by
 obtain ⟨hl, sts, cc, h0, c0, hu, cu, hst⟩ := y.idx
 have wl : ∀ v, v ≤ 30 → ((B0 w ls (a0C ps) v).length : Int) = wt (sts v).2 := by
  intro v
  induction v with
  | zero => intro _; rw [h0]; rfl
  | succ v ih =>
   intro hv
   have ih := ih (by omega)
   obtain ⟨m, l, a, dc, g⟩ := hst v (by omega)
   obtain ⟨e1, e2⟩ := a2y g.get
   have on := g.on
   rw [a0O (by omega)] at on
   have lc := g.lc
   rw [a0O (by omega)] at lc
   have m0 := g.m0
   have l0 := g.l0
   unfold onP at on
   split at on
   ·cases on
   ·rename_i hr
    injection on with on
    injection on with ea edc
    rw [g.nx]
    show (((nmW ls (v + 1)).drop (lW (a0C ps) (v + 1) + (w * mW (a0C ps) (v + 1) - (B0 w ls (a0C ps) v).length))).length : Int) = wt a
    rw [List.length_drop, N8, e1, e2]
    have hc0 := E1 (O6 ls) (v + 2)
    have hmm : ((w * m.toNat : Nat) : Int) = (w : Int) * m := by rw [Int.natCast_mul, Int.toNat_of_nonneg m0]
    generalize w * m.toNat = WM at *
    unfold wt at *
    split <;> omega
 have b12 : ∀ v, v < 30 → (B0 w ls (a0C ps) v).length ≤ w * mW (a0C ps) (v + 1) := fun v hv => by
  obtain ⟨m, l, a, dc, g⟩ := hst v hv
  obtain ⟨e1, e2⟩ := a2y g.get
  have m0 := g.m0
  have on := g.on
  have hw := wl v (by omega)
  unfold onP at on
  split at on
  ·cases on
  ·rename_i hr
   rw [e1]
   have hmm : ((w * m.toNat : Nat) : Int) = (w : Int) * m := by rw [Int.natCast_mul, Int.toNat_of_nonneg m0]
   omega
 have lents : ∀ v, v ≤ 30 → lW (a0C ps) v ≤ b0a ls v := fun v hv => by
  cases v with
  | zero => exact Nat.zero_le _
  | succ v =>
   obtain ⟨m, l, a, dc, g⟩ := hst v (by omega)
   obtain ⟨e1, e2⟩ := a2y g.get
   have lc := g.lc
   rw [a0O (by omega)] at lc
   rw [e2]
   omega
 refine ⟨⟨by unfold a0C; simp [hl], b12, lents⟩, fun j j1 j2 => ?_, ?_, ?_, ?_, ?_, rfl⟩
 ·obtain ⟨v, rfl⟩ : ∃ v, j = v + 1 := ⟨j - 1, by omega⟩
  obtain ⟨m, l, a, dc, g⟩ := hst v (by omega)
  obtain ⟨e1, e2⟩ := a2y g.get
  have hw := wl v (by omega)
  have hf := b12 v (by omega)
  have on := g.on
  have m0 := g.m0
  have l0 := g.l0
  have lc := g.lc
  rw [a0O (by omega)] at lc on
  have hc0 := E1 (O6 ls) (v + 2)
  unfold onP at on
  split at on
  ·cases on
  ·rename_i hr
   injection on with on
   injection on with ea edc
   unfold m5 a4L a6P
   rw [if_pos ⟨by omega, j2⟩, List.length_append, List.length_append, List.length_map, List.length_map, List.length_take, List.length_drop, N8, Nat.add_sub_cancel, e1, e2]
   rw [e1] at hf
   have hmm : ((w * m.toNat : Nat) : Int) = (w : Int) * m := by rw [Int.natCast_mul, Int.toNat_of_nonneg m0]
   generalize w * m.toNat = WM at *
   have lent : ((if v + 1 + 1 ≤ 30 then P3 ls (a0C ps) (v + 1 + 1) else []).length : Int) ≤ max 0 a := by
    split
    ·rename_i hv2
     obtain ⟨m', l', a', dc', g'⟩ := hst (v + 1) (by omega)
     obtain ⟨e1', e2'⟩ := a2y g'.get
     have ls' := g'.ls
     rw [g.nx] at ls'
     have l0' := g'.l0
     unfold P3
     rw [List.length_map, List.length_take, e2']
     have : ((l'.toNat : Nat) : Int) ≤ max 0 a := by
      rw [Int.toNat_of_nonneg l0']
      exact ls'
     omega
    ·simp only [List.length_nil]; omega
   generalize (if v + 1 + 1 ≤ 30 then P3 ls (a0C ps) (v + 1 + 1) else []).length = X at *
   omega
 ·have key : ∀ n, n ≤ 30 → (((List.range n).map fun u => mW (a0C ps) (u + 1)).sum : Int) = (sts n).1 := by
   intro n
   induction n with
   | zero => intro _; rw [h0]; rfl
   | succ n ih =>
    intro hn
    obtain ⟨m, l, a, dc, g⟩ := hst n (by omega)
    obtain ⟨e1, e2⟩ := a2y g.get
    have m0 := g.m0
    rw [List.range_succ, List.map_append, List.sum_append, g.nx]
    have ih := ih (by omega)
    simp only [List.map_cons, List.map_nil, List.sum_cons, List.sum_nil, e1]
    push_cast
    rw [ih]
    show (sts n).1 + _ = (sts n).1 + m
    omega
  have k30 := key 30 (Nat.le_refl _)
  rw [hu] at k30
  omega
 ·have key : ∀ n, n ≤ 30 → ((((List.range n).map fun u => (B0 w ls (a0C ps) u).length + lW (a0C ps) (u + 1)).sum : Nat) : Int) = cc n := by
   intro n
   induction n with
   | zero => intro _; rw [c0]; rfl
   | succ n ih =>
    intro hn
    obtain ⟨m, l, a, dc, g⟩ := hst n (by omega)
    obtain ⟨e1, e2⟩ := a2y g.get
    have l0 := g.l0
    have hw := wl n (by omega)
    have on := g.on
    unfold onP at on
    split at on
    ·cases on
    ·injection on with on
     injection on with ea edc
     rw [List.range_succ, List.map_append, List.sum_append, g.nc]
     have ih := ih (by omega)
     simp only [List.map_cons, List.map_nil, List.sum_cons, List.sum_nil, e2]
     push_cast
     push_cast at ih
     rw [ih]
     omega
  rw [key 30 (Nat.le_refl _), cu]
 ·have := wl 30 (Nat.le_refl _)
  rw [hu] at this
  unfold wt at this
  rw [if_neg (by omega)] at this
  exact List.eq_nil_of_length_eq_zero (by omega)
 ·obtain ⟨m, l, a, dc, g⟩ := hst 0 (by omega)
  obtain ⟨e1, e2⟩ := a2y g.get
  have l0 := g.l0
  have ls' := g.ls
  rw [h0] at ls'
  rw [e2]
  omega
end BV
namespace BV
open PySem L2
section
variable (w : Nat) (ls : List (Str × Int)) (wy : List (Nat × Nat))
def C3 (n : Nat) : List Int := (List.range n).flatMap fun u => List.replicate (mW wy (u + 1)) ((u + 1 : Nat) : Int)
def G5 (n : Nat) : List (List d7) := (List.range n).flatMap fun u => (List.range (mW wy (u + 1))).map (Y2 w (m5 w ls wy 30 (u + 1)))
theorem O2 (n : Nat) : C3 wy (n + 1) = C3 wy n ++ List.replicate (mW wy (n + 1)) ((n + 1 : Nat) : Int) := by
 unfold C3
 rw [List.range_succ, List.flatMap_append]
 simp
theorem T7 (n : Nat) : G5 w ls wy (n + 1) = G5 w ls wy n ++ (List.range (mW wy (n + 1))).map (Y2 w (m5 w ls wy 30 (n + 1))) := by
 unfold G5
 rw [List.range_succ, List.flatMap_append]
 simp
theorem G4 (n : Nat) : (C3 wy n).length = ((List.range n).map fun u => mW wy (u + 1)).sum := by
 induction n with
 | zero => rfl
 | succ n ih => rw [O2, List.length_append, ih, List.length_replicate, List.range_succ, List.map_append, List.sum_append]; simp
theorem J4 (n : Nat) : (G5 w ls wy n).length = ((List.range n).map fun u => mW wy (u + 1)).sum := by
 induction n with
 | zero => rfl
 | succ n ih => rw [T7, List.length_append, ih, List.length_map, List.length_range, List.range_succ, List.map_append, List.sum_append]; simp
theorem a7y {f : Nat → Nat} : ∀ {n k : Nat}, n ≤ k → ((List.range n).map f).sum ≤ ((List.range k).map f).sum := by
 intro n k h
 induction k with
 | zero => rw [show n = 0 by omega]; exact Nat.le_refl _
 | succ k ih =>
  by_cases q : n = k + 1
  ·rw [q]; exact Nat.le_refl _
  ·have := ih (by omega)
   rw [List.range_succ, List.map_append, List.sum_append]
   omega
theorem b6F {f : Nat → Nat} {n u : Nat} (h : u < n) : f u ≤ ((List.range n).map f).sum := by
 have := a7y (f := f) (show u + 1 ≤ n by omega)
 rw [List.range_succ, List.map_append, List.sum_append] at this
 simp at this
 omega
end
def E8 (h : Nat) (wy : List (Nat × Nat)) : Nat := h - ((List.range 30).map fun u => mW wy (u + 1)).sum
def a7O (h : Nat) (wy : List (Nat × Nat)) : List Int := C3 wy 30 ++ List.replicate (E8 h wy) 1
def a2Z (w h : Nat) (ls : List (Str × Int)) (wy : List (Nat × Nat)) : List (List d7) := G5 w ls wy 30 ++ List.replicate (E8 h wy) (List.replicate w none)
def b3o (w h : Nat) (ls : List (Str × Int)) (wy : List (Nat × Nat)) : List (List d7) := wbP false (a2Z w h ls wy)
section
variable {S : Sto} {w h : Nat} {ls : List (Str × Int)} {wy : List (Nat × Nat)}
theorem b6z {c : Int} (k : a7j w h ls wy c) (hh : h ≤ 15) (u : Nat) : mW wy u ≤ 15 ∨ u = 0 ∨ 30 < u := by
 by_cases h0 : u = 0
 ·exact .inr (.inl h0)
 ·by_cases h1 : 30 < u
  ·exact .inr (.inr h1)
  ·left
   have := b6F (f := fun u => mW wy (u + 1)) (n := 30) (u := u - 1) (by omega)
   simp only [Nat.sub_add_cancel (show 1 ≤ u by omega)] at this
   have := k.rows
   omega
theorem b6g (k : wy.length = 31) {u : Nat} (h : 30 < u) : mW wy u = 0 := by
 unfold mW
 rw [List.getElem?_eq_none (by omega)]
 rfl
def b5A (w h : Nat) (ls : List (Str × Int)) (wy : List (Nat × Nat)) (n : Nat) (y8 y9 y10 y11 : Option T) : En :=
 [some (.val (c7 ((w : Int), (h : Int)))), some (.val (.list (ls.map ltD))), some (.val (.int (w : Int))), some (.val (.int (h : Int))), some (.val (wyD wy)), some (.val (.list ((m4 w ls wy 30).map fun l => .list (l.map ltD)))), some (.own ((C3 wy n).map PyData.int)), some (.own ((G5 w ls wy n).map k7)), y8, y9, y10, y11]
theorem b1X {c : Int} (k : a7j w h ls wy c) (hw : w ≤ 15) (hh : h ≤ 15) {n : Nat} (hn : n < 30) {y9 y10 y11 : Option T} :
  ∃ z9, M0 (b5A w h ls wy n (some (.val (.int ((n + 1 : Nat) : Int)))) y9 y10 y11) S = .nx (b5A w h ls wy (n + 1) (some (.val (.int ((n + 1 : Nat) : Int)))) z9 y10 y11) S := by
 have hlen := k.ok.len
 have hlen2 : n + 1 < wy.length := by omega
 have ew : wy[n + 1]? = some (mW wy (n + 1), lW wy (n + 1)) := by
  unfold mW lW
  rw [List.getElem?_eq_getElem hlen2]
  rfl
 have hm : mW wy (n + 1) ≤ 15 := by
  rcases b6z k hh (n + 1) with h | h | h
  ·exact h
  ·omega
  ·omega
 have hs := k.rows
 have h2 := a7y (f := fun u => mW wy (u + 1)) (show n ≤ 30 by omega)
 have ul := G4 wy n
 have rl := J4 w ls wy n
 have i1 : gIx (wyD wy) (.int ((n + 1 : Nat) : Int)) = some (.val (c7 ((mW wy (n + 1) : Int), (lW wy (n + 1) : Int)))) := by
  unfold wyD
  rw [C2, u9 (by rw [List.getElem?_map, ew]; rfl)]
  rfl
 have i0 : gIx (c7 ((mW wy (n + 1) : Int), (lW wy (n + 1) : Int))) (.int 0) = some (.val (.int (mW wy (n + 1) : Int))) := rfl
 have ic : gIx (.list ((m4 w ls wy 30).map fun l => .list (l.map ltD))) (.int ((n + 1 : Nat) : Int)) = some (.val (.list ((m5 w ls wy 30 (n + 1)).map ltD))) := by
  rw [C2, u9 (by rw [List.getElem?_map, G2 (by omega)]; rfl)]
  rfl
 have rp : C5 (.list [.int ((n + 1 : Nat) : Int)]) (.int (mW wy (n + 1) : Int)) = some (.own ((List.replicate (mW wy (n + 1)) ((n + 1 : Nat) : Int)).map PyData.int)) := by
  rw [b1W (by omega) (by simp only [List.length_singleton]; rw [sizeLine_eq]; omega), P5, List.map_replicate]
 have ex1 : u8 ((C3 wy n).map PyData.int) [.list ((List.replicate (mW wy (n + 1)) ((n + 1 : Nat) : Int)).map PyData.int)] = some ((C3 wy (n + 1)).map PyData.int, .none) := by
  show (if _ ≤ sizeLine then some (_ ++ _, PyData.none) else none) = _
  rw [if_pos (by rw [List.length_map, List.length_map, List.length_replicate]; exact p6 (by omega)), O2, List.map_append]
 have ex2 : u8 ((G5 w ls wy n).map k7) [.list (((List.range (mW wy (n + 1))).map (Y2 w (m5 w ls wy 30 (n + 1)))).map k7)] = some ((G5 w ls wy (n + 1)).map k7, .none) := by
  show (if _ ≤ sizeLine then some (_ ++ _, PyData.none) else none) = _
  rw [if_pos (by simp only [List.length_map, List.length_range]; exact p6 (by omega)), T7, List.map_append]
 have fit := k.fit (n + 1) (by omega) (by omega)
 have wm : w * mW wy (n + 1) ≤ 15 * 15 := Nat.mul_le_mul hw hm
 have rs := a8G (S := S) (w := w) (m := mW wy (n + 1)) (cells := m5 w ls wy 30 (n + 1)) (by omega) (by omega) (by omega)
 refine ⟨some (.val (.int (mW wy (n + 1) : Int))), ?_⟩
 unfold M0 b5A
 generalize ((List.range (mW wy (n + 1))).map (Y2 w (m5 w ls wy 30 (n + 1)))).map k7 = RX at *
 generalize (List.replicate (mW wy (n + 1)) ((n + 1 : Nat) : Int)).map PyData.int = UX at *
 generalize ((n + 1 : Nat) : Int) = N1 at *
 generalize wyD wy = WD at *
 generalize (m4 w ls wy 30).map (fun l => PyData.list (l.map ltD)) = FL at *
 generalize (m5 w ls wy 30 (n + 1)).map ltD = FC at *
 generalize (C3 wy (n + 1)).map PyData.int = U2 at *
 generalize (C3 wy n).map PyData.int = U1 at *
 generalize (G5 w ls wy (n + 1)).map k7 = R2 at *
 generalize (G5 w ls wy n).map k7 = R1 at *
 generalize ls.map ltD = LS at *
 refine b9 (ρ1 := [some (.val (c7 ((w : Int), (h : Int)))), some (.val (.list LS)), some (.val (.int (w : Int))), some (.val (.int (h : Int))), some (.val WD), some (.val (.list FL)), some (.own U1), some (.own R1), some (.val (.int N1)), some (.val (.int (mW wy (n + 1) : Int))), y10, y11]) (S1 := S) (by simp [i1, i0]) ?_
 refine b9 (ρ1 := [some (.val (c7 ((w : Int), (h : Int)))), some (.val (.list LS)), some (.val (.int (w : Int))), some (.val (.int (h : Int))), some (.val WD), some (.val (.list FL)), some (.own U2), some (.own R1), some (.val (.int N1)), some (.val (.int (mW wy (n + 1) : Int))), y10, y11]) (S1 := S) (by simp [rp, ex1]) ?_
 simp [ic, rs, ex2, -C2]
theorem b27 {xs ys : List D} (h : xs.length + ys.length ≤ 90000) : u8 xs [.list ys] = some (xs ++ ys, .none) := by
 show (if xs.length + ys.length ≤ sizeLine then some (xs ++ ys, PyData.none) else none) = _
 rw [if_pos (p6 (by omega))]
theorem b2U {i : Nat} {g : SS} {ρ ρ' : En} {S : Sto} {r : Fl} (h : fz i ρ = some ρ') (h2 : g ρ' S = r) : sFz i g ρ S = r := by rw [c1T, h]; exact h2
theorem b5a (c : d7) : lf (o9 c) = true := by
 cases c with
 | none => rfl
 | some p => obtain ⟨x, i⟩ := p; simp [o9]
theorem b7c (r : List d7) : lf (U9 r) = true := by unfold U9; rw [c0O]; exact a5T o9 b5a r
theorem b3L (rs : List (List d7)) : lf (.tuple (rs.map U9)) = true := by rw [c0O]; exact a5T U9 b7c rs
theorem b5h (ps : List (Int × Int)) (hp : ∀ p ∈ ps, 0 ≤ p.1 ∧ 0 ≤ p.2) : ((0, 0) :: ps).map c7 = (a0C ps).map fun p => c7 ((p.1 : Int), (p.2 : Int)) := by
 unfold a0C
 rw [List.map_cons, List.map_cons, List.map_map]
 congr 1
 refine List.map_congr_left fun p h => ?_
 obtain ⟨a, b⟩ := hp p h
 show c7 p = c7 (((p.1.toNat : Nat) : Int), ((p.2.toNat : Nat) : Int))
 rw [Int.toNat_of_nonneg a, Int.toNat_of_nonneg b]
theorem b64 {w h : Int} {cs : List Nat} {u : Nat} {st : Int × Int} {c : Int} {ps : List (Int × Int)} (y : Way w h cs u st c ps) : ∀ p ∈ ps, 0 ≤ p.1 ∧ 0 ≤ p.2 := by
 induction y with
 | zero => exact fun _ h => nomatch h
 | @succ u st c ps m l a dc y m0 l0 mh lc ls eo ih =>
  intro p hp
  rcases List.mem_append.mp hp with q | q
  ·exact ih p q
  ·rw [List.mem_singleton.mp q]; exact ⟨m0, l0⟩
structure c2c (w h : Nat) (ls : List (Str × Int)) (c : Int) : Prop where
 way : ∃ st ps, Way (w : Int) (h : Int) (O6 ls) 30 st c ps ∧ 0 ≤ st.2 ∧ st.1 ≤ (h : Int)
 least : ∀ st c' ps, Way (w : Int) (h : Int) (O6 ls) 30 st c' ps → 0 ≤ st.2 → c ≤ c'
theorem b19 (hw1 : 1 ≤ w) (hw : w ≤ 15) (hh : h ≤ 15) (hl : ls.length ≤ 60) (hls : ∀ p ∈ ls, 1 ≤ p.2 ∧ p.2 ≤ 30) (hS : lfS S = true) :
  (m9 [.val (c7 ((w : Int), (h : Int))), .val (.list (ls.map ltD))] S = .exc ⟨"NoLayout", none⟩ S ∧ (w * h ≤ ls.length ∨ ∀ st c ps, Way (w : Int) (h : Int) (O6 ls) 30 st c ps → 0 ≤ st.2 → False)) ∨
  (ls.length < w * h ∧ ∃ c wy, c2c w h ls c ∧ a7j w h ls wy c ∧ m9 [.val (c7 ((w : Int), (h : Int))), .val (.list (ls.map ltD))] S = .ok (.val (N7 (a7O h wy) (b3o w h ls wy))) S) := by
 have cle : ∀ u, ct (O6 ls) u ≤ 60 := fun u => by have := b9N (ls := ls) u; omega
 have bo := b4b (S := S) (w := w) (h := h) (cs := O6 ls) (N := 60) (a1B ls) (by omega) hw1 hh (by omega) cle
 obtain ⟨_, k⟩ := a0k (S := S) (w := w) (h := h) (cs := O6 ls) (N := 60) (a1B ls) (by omega) hw1 hh (by omega) cle
 have k30 := k 30 (Nat.le_refl _)
 have co := a5A (S := S) hls
 have len := v7 (xs := ls.map ltD)
 rw [List.length_map] at len
 have mw : C5 (.int (w : Int)) (.int (h : Int)) = some (.val (.int ((w * h : Nat) : Int))) := by
  rw [a06 (V8 (by omega) (by omega)) (V8 (by omega) (by omega)), Int.natCast_mul]
 have p0 : ∀ {r : Fl} {rest : SS}, rest [some (.val (c7 ((w : Int), (h : Int)))), some (.val (.list (ls.map ltD))), some (.val (.int (w : Int))), some (.val (.int (h : Int))), none, none, none, none, none, none, none, none] S = r →
   (j9 (a2D (a0S 2 (o8 (f9 2) (o8 (f9 3) a1K))) (m7 0)) rest) (start0 12 [.val (c7 ((w : Int), (h : Int))), .val (.list (ls.map ltD))]) S = r := fun {r rest} hr => by
  refine b9 ?_ hr
  generalize ls.map ltD = LS
  simp [c7]
 by_cases h1 : w * h ≤ ls.length
 ·refine .inl ⟨?_, .inl h1⟩
  unfold m9
  rw [b1S]
  unfold K5
  rw [p0 (r := .ex ⟨"NoLayout", none⟩ [some (.val (c7 ((w : Int), (h : Int)))), some (.val (.list (ls.map ltD))), some (.val (.int (w : Int))), some (.val (.int (h : Int))), none, none, none, none, none, none, none, none] S) (by
   have : (((w * h : Nat) : Int) ≤ (ls.length : Int)) := by omega
   generalize ls.map ltD = LS at *
   generalize w * h = WH at *
   simp [len, mw, this, -v7])]
 ·have p1 : ∀ {r : Fl} {rest : SS}, rest [some (.val (c7 ((w : Int), (h : Int)))), some (.val (.list (ls.map ltD))), some (.val (.int (w : Int))), some (.val (.int (h : Int))), none, none, none, none, none, none, none, none] S = r →
    (j9 (sIf (cB (d9 gGe (cB1 a2g (i8 (b7 1) A9)) (d9 C5 (b7 2) (b7 3)))) (a0G "NoLayout") t4) rest) [some (.val (c7 ((w : Int), (h : Int)))), some (.val (.list (ls.map ltD))), some (.val (.int (w : Int))), some (.val (.int (h : Int))), none, none, none, none, none, none, none, none] S = r := fun {r rest} hr => by
   refine b9 ?_ hr
   have : ¬ (((w * h : Nat) : Int) ≤ (ls.length : Int)) := by omega
   clear hr
   generalize ls.map ltD = LS at *
   generalize w * h = WH at *
   simp [len, mw, this, -v7]
  have cd : PyData.list ((O6 ls).map fun (n : Nat) => PyData.int (n : Int)) = csD (O6 ls) := rfl
  by_cases h2 : G6 (i7 w h (O6 ls) 30) = []
  ·refine .inl ⟨?_, .inr fun st c ps y hs => ?_⟩
   ·have b1 := bo.1 h2
    unfold m9
    rw [b1S]
    unfold K5
    rw [p0 (r := .ex ⟨"NoLayout", none⟩ [some (.val (c7 ((w : Int), (h : Int)))), some (.val (.list (ls.map ltD))), some (.val (.int (w : Int))), some (.val (.int (h : Int))), none, none, none, none, none, none, none, none] S) (p1 (by
     rw [← cd] at b1
     generalize ls.map ltD = LS at *
     generalize (O6 ls).map (fun (n : Nat) => PyData.int (n : Int)) = CS at *
     simp [co, b1]))]
   ·obtain ⟨st', e, he, r1, s1, c1⟩ := a3i hw1 k y (Nat.le_refl _)
    have : (e.c, st') ∈ G6 (i7 w h (O6 ls) 30) := (W7 k30.nd).mpr ⟨by omega, e, he, rfl⟩
    rw [h2] at this
    exact nomatch this
  ·obtain ⟨c, st, hm, hle, b1⟩ := bo.2 h2
   obtain ⟨s0, e, he, rfl⟩ := (W7 k30.nd).mp hm
   have y := a3d hw1 k 30 (Nat.le_refl _) he
   have hr := (k30.box st (List.mem_map.mpr ⟨_, L6 he, rfl⟩)).r1
   have ky := b7r y s0 hr
   refine .inr ⟨by omega, e.c, a0C (P7 w h (O6 ls) 30 st), ⟨⟨st, _, y, s0, hr⟩, fun st2 c2 ps2 y2 hs2 => ?_⟩, ky, ?_⟩
   ·obtain ⟨st', e', he', r1, s1, c1⟩ := a3i hw1 k y2 (Nat.le_refl _)
    have : (e'.c, st') ∈ G6 (i7 w h (O6 ls) 30) := (W7 k30.nd).mpr ⟨by omega, e', he', rfl⟩
    have := hle _ this
    have : e.c ≤ e'.c := this
    omega
   ·rw [b5h _ (b64 y)] at b1
    generalize a0C (P7 w h (O6 ls) 30 st) = wy at *
    have m15 : ∀ u, mW wy u ≤ 100 := fun u => by
     rcases b6z ky hh u with h | h | h
     ·omega
     ·rw [h, ky.zero]; omega
     ·rw [b6g ky.ok.len h]; omega
    have cs := a1H (S := S) ky.ok (by omega) (by omega) m15
    obtain ⟨ρ', S', el, rfl, y8, y9, rfl⟩ := v5 (b := f9 8) (body := M0) (fun i ρ S' => S' = S ∧ ∃ y8 y9, ρ = b5A w h ls wy i y8 y9 none none)
     (j8 1 30) 0 (b5A w h ls wy 0 none none none none) S ⟨rfl, none, none, rfl⟩ (by
      rintro i d ρ S' hd ⟨rfl, y8, y9, rfl⟩
      obtain ⟨hi, rfl⟩ := P0 hd
      rw [Nat.zero_add]
      obtain ⟨z9, et⟩ := b1X (S := S') ky hw hh (n := i) hi (y9 := y9) (y10 := none) (y11 := none)
      rw [Nat.add_comm 1 i]
      exact ⟨_, rfl, _, S', .inl et, rfl, _, z9, rfl⟩)
    rw [Nat.zero_add, y0] at el
    have gr : a0l [.int 1, .int 31] = some (j8 1 30) := a4C (n := 30) (by omega)
    have hrs := ky.rows
    have rl := J4 w ls wy 30
    have ul := G4 wy 30
    have hrest : ((h : Int) - ((G5 w ls wy 30).length : Int)) = ((E8 h wy : Nat) : Int) := by
     unfold E8
     rw [rl]
     omega
    have restle : E8 h wy ≤ 15 := by unfold E8; omega
    have ln : a2g [.list ((G5 w ls wy 30).map k7)] = some (.val (.int ((G5 w ls wy 30).length : Int))) := by rw [v7, List.length_map]
    have lc : ∀ {a b d e f g i j k : Option T}, lcM (f9 11) a0w (d9 C5 (n9 (d3 (cC .none) m6)) (b7 2)) [a, b, some (.val (.int (w : Int))), d, e, f, g, i, j, k, some (.val (.int ((E8 h wy : Nat) : Int))), none] (j8 0 (E8 h wy)) S' = .ok ((List.replicate (E8 h wy) (List.replicate w (none : d7))).map k7) S' := by
     intro a b d e f g i j k
     have rp : C5 (.list [PyData.none]) (.int (w : Int)) = some (.own (List.replicate w PyData.none)) := by
      rw [b1W (by omega) (by simp only [List.length_singleton]; rw [sizeLine_eq]; omega), P5]
     have := a9V (S := S') (b := f9 11) (elt := d9 C5 (n9 (d3 (cC .none) m6)) (b7 2)) (ρ := [a, b, some (.val (.int (w : Int))), d, e, f, g, i, j, k, some (.val (.int ((E8 h wy : Nat) : Int))), none]) (fun _ => k7 (List.replicate w (none : d7))) (j8 0 (E8 h wy)) fun d' _ => ⟨_, .own (List.replicate w PyData.none), rfl, by simp [rp], by unfold k7; rw [List.map_replicate]; rfl⟩
     rw [this]
     have : (j8 0 (E8 h wy)).map (fun _ => k7 (List.replicate w (none : d7))) = List.replicate (E8 h wy) (k7 (List.replicate w (none : d7))) := by
      rw [List.map_const', y0]
     rw [this, List.map_replicate]
    have ex : u8 ((G5 w ls wy 30).map k7) [.list ((List.replicate (E8 h wy) (List.replicate w (none : d7))).map k7)] = some ((a2Z w h ls wy).map k7, .none) := by
     rw [b27 (by simp only [List.length_map, List.length_replicate]; omega)]
     unfold a2Z
     rw [List.map_append]
    have ru : C5 (.list [.int 1]) (.int ((E8 h wy : Nat) : Int)) = some (.own ((List.replicate (E8 h wy) (1 : Int)).map PyData.int)) := by
     rw [b1W (by omega) (by simp only [List.length_singleton]; rw [sizeLine_eq]; omega), P5, List.map_replicate]
    have au : B2 (.list ((C3 wy 30).map PyData.int)) (.list ((List.replicate (E8 h wy) (1 : Int)).map PyData.int)) = some (.own ((a7O h wy).map PyData.int)) := by
     rw [Y4 (by simp only [List.length_map, List.length_replicate]; exact p6 (by omega))]
     unfold a7O
     rw [List.map_append]
    have l0len : (a2Z w h ls wy).length ≤ 100 := by
     unfold a2Z
     rw [List.length_append, List.length_replicate]
     omega
    have l0w : ∀ r ∈ a2Z w h ls wy, r.length ≤ 100 := fun r hr => by
     unfold a2Z at hr
     rcases List.mem_append.mp hr with q | q
     ·unfold G5 at q
      obtain ⟨u, _, q⟩ := List.mem_flatMap.mp q
      obtain ⟨k', _, rfl⟩ := List.mem_map.mp q
      rw [a7M]
      omega
     ·rw [(List.mem_replicate.mp q).2, List.length_replicate]
      omega
    have bs := a8D (S := S') l0len l0w
    have lfr := b3L (b3o w h ls wy)
    have cd2 : PyData.list (wy.map fun p => c7 ((p.1 : Int), (p.2 : Int))) = wyD wy := rfl
    unfold m9
    refine F7 ?_
    unfold K5
    refine p0 (p1 ?_)
    unfold b5A at el
    rw [show (C3 wy 0).map PyData.int = [] from rfl, show (G5 w ls wy 0).map k7 = [] from rfl] at el
    unfold N7
    rw [← cd] at b1
    rw [show (wbP false (a2Z w h ls wy)) = b3o w h ls wy from rfl] at bs
    generalize (List.replicate (E8 h wy) (List.replicate w (none : d7))).map k7 = RR at *
    generalize (List.replicate (E8 h wy) (1 : Int)).map PyData.int = RU at *
    generalize (a7O h wy).map PyData.int = LU at *
    generalize (b3o w h ls wy).map U9 = LR at *
    generalize (a2Z w h ls wy).map k7 = L0 at *
    generalize (C3 wy 30).map PyData.int = U3 at *
    generalize (G5 w ls wy 30).map k7 = R3 at *
    generalize (m4 w ls wy 30).map (fun l => PyData.list (l.map ltD)) = FL at *
    generalize (O6 ls).map (fun (n : Nat) => PyData.int (n : Int)) = CS at *
    generalize ls.map ltD = LS at *
    generalize (wy.map fun p => c7 ((p.1 : Int), (p.2 : Int))) = WL at *
    generalize wyD wy = WD at *
    generalize E8 h wy = RS at *
    refine b9 (ρ1 := [some (.val (c7 ((w : Int), (h : Int)))), some (.val (.list LS)), some (.val (.int (w : Int))), some (.val (.int (h : Int))), some (.own WL), none, none, none, none, none, none, none]) (S1 := S') (by simp [co, b1]) ?_
    refine b2U (ρ' := [some (.val (c7 ((w : Int), (h : Int)))), some (.val (.list LS)), some (.val (.int (w : Int))), some (.val (.int (h : Int))), some (.val WD), none, none, none, none, none, none, none]) (by simp [cd2]) ?_
    refine b9 (ρ1 := [some (.val (c7 ((w : Int), (h : Int)))), some (.val (.list LS)), some (.val (.int (w : Int))), some (.val (.int (h : Int))), some (.val WD), some (.val (.list FL)), none, none, none, none, none, none]) (S1 := S') (by simp [cs]) ?_
    refine b9 (ρ1 := [some (.val (c7 ((w : Int), (h : Int)))), some (.val (.list LS)), some (.val (.int (w : Int))), some (.val (.int (h : Int))), some (.val WD), some (.val (.list FL)), some (.own []), none, none, none, none, none]) (S1 := S') (by simp) ?_
    refine b9 (ρ1 := [some (.val (c7 ((w : Int), (h : Int)))), some (.val (.list LS)), some (.val (.int (w : Int))), some (.val (.int (h : Int))), some (.val WD), some (.val (.list FL)), some (.own []), some (.own []), none, none, none, none]) (S1 := S') (by simp) ?_
    refine b9 (ρ1 := [some (.val (c7 ((w : Int), (h : Int)))), some (.val (.list LS)), some (.val (.int (w : Int))), some (.val (.int (h : Int))), some (.val WD), some (.val (.list FL)), some (.own U3), some (.own R3), y8, y9, none, none]) (S1 := S') (by simp [gr, el]) ?_
    refine b9 (ρ1 := [some (.val (c7 ((w : Int), (h : Int)))), some (.val (.list LS)), some (.val (.int (w : Int))), some (.val (.int (h : Int))), some (.val WD), some (.val (.list FL)), some (.own U3), some (.own R3), y8, y9, some (.val (.int (RS : Int))), none]) (S1 := S') (by simp [ln, hrest, -v7]) ?_
    have gr1 := a0o (n := RS) (p6 (by omega))
    refine b9 (ρ1 := [some (.val (c7 ((w : Int), (h : Int)))), some (.val (.list LS)), some (.val (.int (w : Int))), some (.val (.int (h : Int))), some (.val WD), some (.val (.list FL)), some (.own U3), some (.own L0), y8, y9, some (.val (.int (RS : Int))), none]) (S1 := S') (by simp [gr1, q8, lc, ex]) ?_
    simp [ru, au, bs, lfr, hS]
end
end BV
namespace BV
open PySem L2
abbrev UC := Int × Str × Int
def M1 (u : Int) (r : List d7) : List UC := r.filterMap fun c => c.map fun p => (u, p.1, p.2)
def p7 (units : List Int) (rows : List (List d7)) : List UC := (units.zip rows).flatMap fun q => M1 q.1 q.2
theorem n8 (u : Int) (r : List d7) (us : List Int) (rs : List (List d7)) : p7 (u :: us) (r :: rs) = M1 u r ++ p7 us rs := by
 unfold p7
 rw [List.zip_cons_cons, List.flatMap_cons]
theorem U0 {us us' : List Int} {rs rs' : List (List d7)} (h : us.length = rs.length) : p7 (us ++ us') (rs ++ rs') = p7 us rs ++ p7 us' rs' := by
 unfold p7
 rw [List.zip_append h, List.flatMap_append]
theorem b0M (u : Int) (l : List (Str × Int)) : M1 u (l.map some) = l.map fun p => (u, p.1, p.2) := by
 unfold M1
 induction l with
 | nil => rfl
 | cons p l ih => simp only [List.map_cons, List.filterMap_cons, Option.map_some, ih]
theorem a2N (u : Int) (n : Nat) : M1 u (List.replicate n none) = [] := by
 unfold M1
 rw [List.filterMap_eq_nil_iff]
 intro a ha
 rw [(List.mem_replicate.mp ha).2]
 rfl
theorem b1F (u : Int) (a b : List d7) : M1 u (a ++ b) = M1 u a ++ M1 u b := List.filterMap_append ..
theorem a0R (u : Int) {w : Nat} {cells : List (Str × Int)} : ∀ m : Nat, p7 (List.replicate m u) ((List.range m).map (Y2 w cells)) = (cells.take (m * w)).map fun p => (u, p.1, p.2)
 | 0 => by simp [p7]
 | m + 1 => by
  rw [List.replicate_succ', List.range_succ, List.map_append, U0 (by simp), a0R u m]
  have e1 : p7 [u] ([m].map (Y2 w cells)) = ((cells.drop (m * w)).take w).map fun p => (u, p.1, p.2) := by
   rw [List.map_cons, List.map_nil, n8]
   unfold Y2
   rw [b1F, b0M, a2N]
   simp [p7]
  rw [e1, ← List.map_append, Nat.succ_mul, List.take_add]
section
variable {w h : Nat} {ls : List (Str × Int)} {wy : List (Nat × Nat)} {c : Int}
def F4 (w : Nat) (ls : List (Str × Int)) (wy : List (Nat × Nat)) (n : Nat) : List UC := (List.range n).flatMap fun u => (m5 w ls wy 30 (u + 1)).map fun p => (((u + 1 : Nat) : Int), p.1, p.2)
theorem O1 (n : Nat) : F4 w ls wy (n + 1) = F4 w ls wy n ++ (m5 w ls wy 30 (n + 1)).map fun p => (((n + 1 : Nat) : Int), p.1, p.2) := by
 unfold F4
 rw [List.range_succ, List.flatMap_append]
 simp
theorem a2x (k : a7j w h ls wy c) : ∀ n, n ≤ 30 → p7 (C3 wy n) (G5 w ls wy n) = F4 w ls wy n
 | 0, _ => by simp [p7, F4, C3, G5]
 | n + 1, hn => by
  rw [O2, T7, U0 (by rw [G4, J4]), a2x k n (by omega), a0R, O1]
  have := k.fit (n + 1) (by omega) hn
  rw [List.take_of_length_le (by rw [Nat.mul_comm]; exact this)]
theorem a0J (k : a7j w h ls wy c) : p7 (a7O h wy) (a2Z w h ls wy) = F4 w ls wy 30 := by
 unfold a7O a2Z
 rw [U0 (by rw [G4, J4]), a2x k 30 (Nat.le_refl _)]
 have : ∀ n, p7 (List.replicate n 1) (List.replicate n (List.replicate w (none : d7))) = [] := by
  intro n
  induction n with
  | zero => rfl
  | succ n ih => rw [List.replicate_succ, List.replicate_succ, n8, ih, a2N]; rfl
 rw [this, List.append_nil]
theorem a65 (k : a7j w h ls wy c) : (a7O h wy).length = h := by
 unfold a7O E8
 rw [List.length_append, List.length_replicate, G4]
 have := k.rows
 omega
theorem a1d (k : a7j w h ls wy c) : (a2Z w h ls wy).length = h := by
 unfold a2Z E8
 rw [List.length_append, List.length_replicate, J4]
 have := k.rows
 omega
theorem a3l : ∀ r ∈ a2Z w h ls wy, r.length = w := fun r hr => by
 unfold a2Z at hr
 rcases List.mem_append.mp hr with q | q
 ·unfold G5 at q
  obtain ⟨u, _, q⟩ := List.mem_flatMap.mp q
  obtain ⟨k', _, rfl⟩ := List.mem_map.mp q
  exact a7M ..
 ·rw [(List.mem_replicate.mp q).2, List.length_replicate]
theorem b4V (k : a7j w h ls wy c) : ∀ u ∈ a7O h wy, 1 ≤ u ∧ u ≤ 30 := fun u hu => by
 unfold a7O at hu
 rcases List.mem_append.mp hu with q | q
 ·unfold C3 at q
  obtain ⟨v, hv, q⟩ := List.mem_flatMap.mp q
  rw [List.mem_range] at hv
  rw [(List.mem_replicate.mp q).2]
  omega
 ·rw [(List.mem_replicate.mp q).2]
  omega
end
theorem a0I {u : Int} : ∀ {r : List d7}, none ∈ r → (M1 u (K8 r)).Perm ((u, blank, 0) :: M1 u r) ∧ (K8 r).length = r.length
 | [], h => nomatch h
 | none :: r, _ => ⟨by unfold K8 M1; simp, rfl⟩
 | some p :: r, h => by
  have h' : none ∈ r := by
   rcases List.mem_cons.mp h with e | h
   ·cases e
   ·exact h
  obtain ⟨p1, p2⟩ := a0I (u := u) h'
  refine ⟨?_, by show (K8 r).length + 1 = _; rw [p2]; rfl⟩
  have e1 : M1 u (K8 (some p :: r)) = (u, p.1, p.2) :: M1 u (K8 r) := by show M1 u (some p :: K8 r) = _; unfold M1; simp
  have e2 : M1 u (some p :: r) = (u, p.1, p.2) :: M1 u r := by unfold M1; simp
  rw [e1, e2]
  exact (p1.cons _).trans (List.Perm.swap ..)
theorem b0Y : ∀ {us : List Int} {rs : List (List d7)}, us.length = rs.length → (∃ r ∈ rs, none ∈ r) → ∃ u ∈ us, (p7 us (wbP false rs)).Perm ((u, blank, 0) :: p7 us rs) ∧ (wbP false rs).length = rs.length ∧ ∀ n, (∀ r ∈ rs, r.length = n) → ∀ r ∈ wbP false rs, r.length = n
 | [], [], _, h => by obtain ⟨r, hr, _⟩ := h; exact nomatch hr
 | [], _ :: _, h, _ => by simp at h
 | _ :: _, [], h, _ => by simp at h
 | u :: us, r :: rs, hl, h => by
  by_cases hn : none ∈ r
  ·obtain ⟨p1, p2⟩ := a0I (u := u) hn
   have e : wbP false (r :: rs) = K8 r :: rs := by show (if none ∈ r then K8 r :: wbP true rs else _) = _; rw [if_pos hn, b2x]
   refine ⟨u, List.mem_cons_self .., ?_, by rw [e]; rfl, fun n hn r' hr' => ?_⟩
   ·rw [e, n8, n8]
    exact p1.append_right _
   ·rw [e] at hr'
    rcases List.mem_cons.mp hr' with q | q
    ·rw [q, p2]; exact hn r (List.mem_cons_self ..)
    ·exact hn r' (List.mem_cons_of_mem _ q)
  ·have e : wbP false (r :: rs) = r :: wbP false rs := by show (if none ∈ r then _ else r :: wbP false rs) = _; rw [if_neg hn]
   obtain ⟨r', hr', hn'⟩ := h
   have hr'' : r' ∈ rs := by
    rcases List.mem_cons.mp hr' with q | q
    ·exact absurd (q ▸ hn') hn
    ·exact q
   obtain ⟨u', hu', p1, p2, p3⟩ := b0Y (us := us) (by simpa using hl) ⟨r', hr'', hn'⟩
   refine ⟨u', List.mem_cons_of_mem _ hu', ?_, by rw [e, List.length_cons, p2]; rfl, fun n hn q hq => ?_⟩
   ·rw [e, n8, n8]
    exact (p1.append_left (M1 u r)).trans List.perm_middle
   ·rw [e] at hq
    rcases List.mem_cons.mp hq with z | z
    ·rw [z]; exact hn r (List.mem_cons_self ..)
    ·exact p3 n (fun x hx => hn x (List.mem_cons_of_mem _ hx)) q z
theorem a0W {w : Nat} : ∀ {us : List Int} {rs : List (List d7)}, us.length = rs.length → (∀ r ∈ rs, r.length = w) → (∀ r ∈ rs, none ∉ r) → (p7 us rs).length = w * rs.length
 | [], [], _, _, _ => rfl
 | [], _ :: _, h, _, _ => by simp at h
 | _ :: _, [], h, _, _ => by simp at h
 | u :: us, r :: rs, hl, hw, hn => by
  have ih := a0W (us := us) (rs := rs) (by simpa using hl) (fun q hq => hw q (List.mem_cons_of_mem _ hq)) (fun q hq => hn q (List.mem_cons_of_mem _ hq))
  have e : ∀ (r : List d7), none ∉ r → (M1 u r).length = r.length := by
   intro r
   induction r with
   | nil => intro _; rfl
   | cons c r ihr =>
    intro h
    cases c with
    | none => exact absurd (List.mem_cons_self ..) h
    | some p =>
     have := ihr (fun z => h (List.mem_cons_of_mem _ z))
     unfold M1 at *
     simp [this]
  rw [n8, List.length_append, ih, e r (hn r (List.mem_cons_self ..)), hw r (List.mem_cons_self ..), List.length_cons, Nat.mul_succ]
  omega
def lw (a : UC) : Str × Int := (a.2.1, a.1 + a.2.2)
section
variable {w h : Nat} {ls : List (Str × Int)} {wy : List (Nat × Nat)} {c : Int}
def P2 (n : Nat) (xs : List Str) : List (Str × Int) := xs.map fun x => (x, (n : Int))
def E7 (ls : List (Str × Int)) (wy : List (Nat × Nat)) (n : Nat) : List Str := if n ≤ 30 then (nmW ls n).take (lW wy n) else []
def b4h (ls : List (Str × Int)) (n : Nat) : List (Str × Int) := (List.range n).flatMap fun u => P2 (u + 1) (nmW ls (u + 1))
theorem a2W (n : Nat) : b4h ls (n + 1) = b4h ls n ++ P2 (n + 1) (nmW ls (n + 1)) := by
 unfold b4h
 rw [List.range_succ, List.flatMap_append]
 simp
theorem b1L {n : Nat} (hn : n < 30) : ((m5 w ls wy 30 (n + 1)).map fun p => (((n + 1 : Nat) : Int), p.1, p.2)).map lw = P2 n (B0 w ls wy n) ++ P2 (n + 1) (a6P w ls wy n) ++ P2 (n + 2) (E7 ls wy (n + 2)) := by
 have e1 : ∀ (xs : List Str), ((xs.map fun x => (x, (-1 : Int))).map fun p => (((n + 1 : Nat) : Int), p.1, p.2)).map lw = P2 n xs := fun xs => by
  unfold P2
  rw [List.map_map, List.map_map]
  refine List.map_congr_left fun x _ => Prod.ext rfl ?_
  show (((n + 1 : Nat) : Int)) + -1 = (n : Int)
  omega
 have e2 : ∀ (xs : List Str), ((xs.map fun x => (x, (0 : Int))).map fun p => (((n + 1 : Nat) : Int), p.1, p.2)).map lw = P2 (n + 1) xs := fun xs => by
  unfold P2
  rw [List.map_map, List.map_map]
  refine List.map_congr_left fun x _ => Prod.ext rfl ?_
  show (((n + 1 : Nat) : Int)) + 0 = ((n + 1 : Nat) : Int)
  omega
 have e3 : ∀ (xs : List Str), ((xs.map fun x => (x, (1 : Int))).map fun p => (((n + 1 : Nat) : Int), p.1, p.2)).map lw = P2 (n + 2) xs := fun xs => by
  unfold P2
  rw [List.map_map, List.map_map]
  refine List.map_congr_left fun x _ => Prod.ext rfl ?_
  show (((n + 1 : Nat) : Int)) + 1 = ((n + 2 : Nat) : Int)
  omega
 unfold m5 a4L E7 P3
 rw [if_pos ⟨by omega, by omega⟩, Nat.add_sub_cancel]
 by_cases h2 : n + 1 + 1 ≤ 30
 ·rw [if_pos h2, if_pos (by omega), List.map_append, List.map_append, List.map_append, List.map_append, e1, e2, e3]
 ·rw [if_neg h2, if_neg (by omega), List.append_nil, List.map_append, List.map_append, e1, e2]
  show _ = _ ++ _ ++ P2 (n + 2) []
  rw [show P2 (n + 2) [] = [] from rfl, List.append_nil]
theorem a5e (n : Nat) (hn : n + 1 ≤ 30) : nmW ls (n + 1) = E7 ls wy (n + 1) ++ (a6P w ls wy n ++ B0 w ls wy (n + 1)) := by
 unfold E7 a6P
 rw [if_pos hn]
 show _ = _ ++ (_ ++ (nmW ls (n + 1)).drop (lW wy (n + 1) + (w * mW wy (n + 1) - (B0 w ls wy n).length)))
 rw [← List.drop_drop, List.take_append_drop, List.take_append_drop]
theorem a0M (k : a7j w h ls wy c) : ∀ n, n ≤ 30 → ((F4 w ls wy n).map lw ++ P2 n (B0 w ls wy n)).Perm (b4h ls n ++ P2 (n + 1) (E7 ls wy (n + 1)))
 | 0, _ => by
  have : E7 ls wy 1 = [] := by unfold E7; rw [k.first]; simp
  rw [this]
  exact List.Perm.refl _
 | n + 1, hn => by
  have ih := a0M k n (by omega)
  rw [O1, List.map_append, b1L (by omega), a2W, a5e (w := w) (wy := wy) n hn]
  have ta : ∀ m (a b : List Str), P2 m (a ++ b) = P2 m a ++ P2 m b := fun m a b => by unfold P2; rw [List.map_append]
  rw [ta, ta, show P2 (n + 1 + 1) (E7 ls wy (n + 1 + 1)) = P2 (n + 2) (E7 ls wy (n + 2)) from rfl]
  generalize (F4 w ls wy n).map lw = X at *
  generalize P2 n (B0 w ls wy n) = A at *
  generalize P2 (n + 1) (a6P w ls wy n) = B at *
  generalize P2 (n + 2) (E7 ls wy (n + 2)) = C at *
  generalize P2 (n + 1) (B0 w ls wy (n + 1)) = E at *
  generalize P2 (n + 1) (E7 ls wy (n + 1)) = F at *
  generalize b4h ls n = Y at *
  rw [List.perm_iff_count] at ih ⊢
  intro a
  have := ih a
  simp only [List.count_append] at this ⊢
  omega
theorem a9O (hls : ∀ p ∈ ls, 1 ≤ p.2 ∧ p.2 ≤ 30) : (b4h ls 30).Perm ls := by
 rw [List.perm_iff_count]
 intro a
 have key : ∀ n, (b4h ls n).count a = if 1 ≤ a.2 ∧ a.2 ≤ (n : Int) then ls.count a else 0 := by
  intro n
  induction n with
  | zero => rw [if_neg (by omega)]; rfl
  | succ n ih =>
   rw [a2W, List.count_append, ih]
   have e : (P2 (n + 1) (nmW ls (n + 1))).count a = if a.2 = ((n + 1 : Nat) : Int) then ls.count a else 0 := by
    unfold P2 nmW
    rw [List.map_map]
    by_cases q : a.2 = ((n + 1 : Nat) : Int)
    ·rw [if_pos q]
     clear ih hls
     induction ls with
     | nil => rfl
     | cons p ls ih =>
      rw [List.filter_cons]
      by_cases r : p.2 = ((n + 1 : Nat) : Int)
      ·rw [if_pos (decide_eq_true r), List.map_cons, List.count_cons, List.count_cons, ih]
       have : ((fun x : Str => (x, ((n + 1 : Nat) : Int))) ∘ fun p : Str × Int => p.1) p = p := Prod.ext rfl r.symm
       rw [this]
      ·rw [if_neg (by simpa using r), ih, List.count_cons, if_neg]
       ·rfl
       ·intro z
        have : p = a := by simpa using z
        exact r (this ▸ q)
    ·rw [if_neg q, List.count_eq_zero]
     intro z
     obtain ⟨p, _, e⟩ := List.mem_map.mp z
     exact q (by rw [← e]; rfl)
   rw [e]
   by_cases h1 : 1 ≤ a.2
   ·by_cases h2 : a.2 ≤ (n : Int)
    ·rw [if_pos ⟨h1, h2⟩, if_neg (by omega), if_pos ⟨h1, by omega⟩]; rfl
    ·by_cases h3 : a.2 = ((n + 1 : Nat) : Int)
     ·rw [if_neg (by omega), if_pos h3, if_pos ⟨h1, by omega⟩, Nat.zero_add]
     ·rw [if_neg (by omega), if_neg h3, if_neg (by omega)]
   ·rw [if_neg (by omega), if_neg (by omega), if_neg (by omega)]
 rw [key]
 split
 ·rfl
 ·rename_i q
  rw [eq_comm, List.count_eq_zero]
  intro z
  exact q (by have := hls a z; omega)
theorem a1Q (k : a7j w h ls wy c) (hls : ∀ p ∈ ls, 1 ≤ p.2 ∧ p.2 ≤ 30) : ((F4 w ls wy 30).map lw).Perm ls := by
 have p := a0M k 30 (Nat.le_refl _)
 have e1 : P2 30 (B0 w ls wy 30) = [] := by rw [k.end_]; rfl
 have e2 : P2 (30 + 1) (E7 ls wy (30 + 1)) = [] := by unfold E7; rw [if_neg (by omega)]; rfl
 rw [e1, e2, List.append_nil, List.append_nil] at p
 exact p.trans (a9O hls)
def nzB (a : UC) : Bool := decide (a.2.2 ≠ 0)
theorem a0H (k : a7j w h ls wy c) : ∀ n, n ≤ 30 → (F4 w ls wy n).countP nzB = ((List.range n).map fun u => (B0 w ls wy u).length + lW wy (u + 1)).sum + (E7 ls wy (n + 1)).length
 | 0, _ => by
  have : E7 ls wy 1 = [] := by unfold E7; rw [k.first]; simp
  rw [this]
  rfl
 | n + 1, hn => by
  have ih := a0H k n (by omega)
  rw [O1, List.countP_append, ih, List.range_succ, List.map_append, List.sum_append]
  have hl := k.ok.lent (n + 1) hn
  rw [← N8] at hl
  have e1 : (E7 ls wy (n + 1)).length = lW wy (n + 1) := by
   unfold E7
   rw [if_pos hn, List.length_take]
   omega
  have e2 : ((m5 w ls wy 30 (n + 1)).map fun p => (((n + 1 : Nat) : Int), p.1, p.2)).countP nzB = (B0 w ls wy n).length + (E7 ls wy (n + 1 + 1)).length := by
   unfold m5 a4L E7 P3
   rw [if_pos ⟨by omega, by omega⟩, Nat.add_sub_cancel]
   have z1 : ∀ (xs : List Str), ((xs.map fun x => (x, (-1 : Int))).map fun p => (((n + 1 : Nat) : Int), p.1, p.2)).countP nzB = xs.length := fun xs => by
    rw [List.map_map, List.countP_map]
    exact List.countP_eq_length.mpr (fun _ _ => rfl)
   have z0 : ∀ (xs : List Str), ((xs.map fun x => (x, (0 : Int))).map fun p => (((n + 1 : Nat) : Int), p.1, p.2)).countP nzB = 0 := fun xs => by
    rw [List.map_map, List.countP_map, List.countP_eq_zero]
    intro x _ z
    have z' : decide ((0 : Int) ≠ 0) = true := z
    simp at z'
   have z2 : ∀ (xs : List Str), ((xs.map fun x => (x, (1 : Int))).map fun p => (((n + 1 : Nat) : Int), p.1, p.2)).countP nzB = xs.length := fun xs => by
    rw [List.map_map, List.countP_map]
    exact List.countP_eq_length.mpr (fun _ _ => rfl)
   by_cases h2 : n + 1 + 1 ≤ 30
   ·rw [if_pos h2, if_pos h2, List.map_append, List.map_append, List.countP_append, List.countP_append, z1, z0, z2]
    omega
   ·rw [if_neg h2, if_neg h2, List.append_nil, List.map_append, List.countP_append, z1, z0]
    rfl
  rw [e2, e1]
  simp
  omega
theorem b1s (k : a7j w h ls wy c) : ((F4 w ls wy 30).countP nzB : Int) = c := by
 rw [a0H k 30 (Nat.le_refl _), k.cams]
 have : E7 ls wy (30 + 1) = [] := by unfold E7; rw [if_neg (by omega)]
 rw [this, List.length_nil, Nat.add_zero]
theorem a90 : ∀ a ∈ F4 w ls wy 30, a.2.2 = 0 ∨ a.2.2 = 1 ∨ a.2.2 = -1 := by
 intro a ha
 unfold F4 at ha
 obtain ⟨u, _, ha⟩ := List.mem_flatMap.mp ha
 obtain ⟨p, hp, rfl⟩ := List.mem_map.mp ha
 show p.2 = 0 ∨ p.2 = 1 ∨ p.2 = -1
 unfold m5 at hp
 rcases List.mem_append.mp hp with q | q
 ·split at q
  ·unfold a4L at q
   rcases List.mem_append.mp q with q | q
   ·obtain ⟨x, _, rfl⟩ := List.mem_map.mp q; exact .inr (.inr rfl)
   ·obtain ⟨x, _, rfl⟩ := List.mem_map.mp q; exact .inl rfl
  ·exact nomatch q
 ·split at q
  ·unfold P3 at q
   obtain ⟨x, _, rfl⟩ := List.mem_map.mp q; exact .inr (.inl rfl)
  ·exact nomatch q
structure Laid (w h : Nat) (ls : List (Str × Int)) (c : Int) (units : List Int) (rows : List (List d7)) : Prop where
 hu : units.length = h
 hr : rows.length = h
 hw : ∀ r ∈ rows, r.length = w
 un : ∀ u ∈ units, 1 ≤ u ∧ u ≤ 30
 cells : ∃ (u0 : Int) (A : List UC), (p7 units rows).Perm ((u0, blank, 0) :: A) ∧ (A.map lw).Perm ls ∧ (∀ a ∈ A, a.2.2 = 0 ∨ a.2.2 = 1 ∨ a.2.2 = -1) ∧ (A.countP nzB : Int) = c
theorem laid (k : a7j w h ls wy c) (hls : ∀ p ∈ ls, 1 ≤ p.2 ∧ p.2 ≤ 30) (hl : ls.length < w * h) : Laid w h ls c (a7O h wy) (b3o w h ls wy) := by
 have e1 : (a7O h wy).length = (a2Z w h ls wy).length := by rw [a65 k, a1d k]
 have pl := a1Q k hls
 have hex : ∃ r ∈ a2Z w h ls wy, none ∈ r := by
  apply Classical.byContradiction
  intro hn
  have := a0W e1 a3l (fun r hr z => hn ⟨r, hr, z⟩)
  rw [a0J k, a1d k] at this
  have := pl.length_eq
  rw [List.length_map] at this
  omega
 obtain ⟨u, hu, p1, p2, p3⟩ := b0Y e1 hex
 rw [a0J k] at p1
 exact ⟨a65 k, by unfold b3o; rw [p2, a1d k], p3 w a3l, b4V k, u, F4 w ls wy 30, p1, pl, a90, b1s k⟩
end
end BV
namespace BV
open PySem L2
def IsMinP (P : Int → Prop) : Option Int → Prop
 | none => ∀ c, ¬ P c
 | some c => P c ∧ ∀ c', P c' → c ≤ c'
theorem IsMinP.congr {P Q : Int → Prop} (h : ∀ c, P c ↔ Q c) : ∀ {o : Option Int}, IsMinP P o → IsMinP Q o
 | none, q => fun c z => q c ((h c).mpr z)
 | some c, q => ⟨(h c).mp q.1, fun c' z => q.2 c' ((h c').mpr z)⟩
def b1d : Option Int → Option Int → Option Int
 | none, o => o
 | some a, none => some a
 | some a, some b => if b < a then some b else some a
theorem IsMinP.or {P Q : Int → Prop} : ∀ {o o' : Option Int}, IsMinP P o → IsMinP Q o' → IsMinP (fun c => P c ∨ Q c) (b1d o o')
 | none, none, p, q => fun c z => z.elim (p c) (q c)
 | none, some b, p, q => ⟨.inr q.1, fun c' z => z.elim (fun y => absurd y (p c')) (q.2 c')⟩
 | some a, none, p, q => ⟨.inl p.1, fun c' z => z.elim (p.2 c') (fun y => absurd y (q c'))⟩
 | some a, some b, p, q => by
  show IsMinP _ (if b < a then some b else some a)
  split
  ·refine ⟨.inr q.1, fun c' z => z.elim (fun y => ?_) (q.2 c')⟩
   have := p.2 c' y
   omega
  ·refine ⟨.inl p.1, fun c' z => z.elim (p.2 c') (fun y => ?_)⟩
   have := q.2 c' y
   omega
inductive Tl (w : Int) (cs : List Nat) : Nat → Int → Int → Int → Prop
 | stop {u : Nat} {r s : Int} : 30 < u → 0 ≤ s → Tl w cs u r s 0
 | step {u : Nat} {r s m l a dc c : Int} : u ≤ 30 → 0 ≤ m → m ≤ r → 0 ≤ l → l ≤ ct cs u → l ≤ max 0 s → onP w (ct cs u) (ct cs (u + 1)) s m l = some (a, dc) → Tl w cs (u + 1) (r - m) a c → Tl w cs u r s (dc + c)
theorem Tl.mono {w : Int} {cs : List Nat} {u : Nat} {r s c : Int} (t : Tl w cs u r s c) : ∀ {r' : Int}, r ≤ r' → Tl w cs u r' s c := by
 induction t with
 | stop h1 h2 => exact fun _ => .stop h1 h2
 | step h1 h2 h3 h4 h5 h6 h7 _ ih => exact fun h => .step h1 h2 (by omega) h4 h5 h6 h7 (ih (by omega))
section
variable {w : Int} {cs : List Nat}
end
end BV
namespace BV
open PySem L2
def V2 (x u : Int) : Int := ((x - u).natAbs : Int)
def Plc (us : List Int) : List Int → List Nat → Int → Prop
 | [], _, c => c = 0
 | x :: ws, room, c => ∃ (i : Nat) (u : Int) (r : Nat) (c' : Int), us[i]? = some u ∧ room[i]? = some (r + 1) ∧ V2 x u < 2 ∧ Plc us ws (room.set i r) c' ∧ c = V2 x u + c'
def cap : List Int → List Nat → Int → Nat
 | u :: us, r :: room, v => (if u = v then r else 0) + cap us room v
 | _, _, _ => 0
def b2h (A : List (Int × Int)) : Int := (A.map fun p => V2 p.1 p.2).sum
theorem v3 (p : Int × Int) (A : List (Int × Int)) : b2h (p :: A) = V2 p.1 p.2 + b2h A := by
 unfold b2h
 rw [List.map_cons, List.sum_cons]
theorem b1l (x u : Int) : 0 ≤ V2 x u := by unfold V2; omega
theorem b0G : ∀ {us : List Int} {room : List Nat} {v : Int}, 1 ≤ cap us room v → ∃ (i r : Nat), us[i]? = some v ∧ room[i]? = some (r + 1)
 | [], room, v, h => by simp [cap] at h
 | u :: us, [], v, h => by simp [cap] at h
 | u :: us, r :: room, v, h => by
  by_cases e : u = v ∧ 0 < r
  ·exact ⟨0, r - 1, by rw [e.1]; rfl, by rw [List.getElem?_cons_zero]; congr 1; omega⟩
  ·have : 1 ≤ cap us room v := by
    simp only [cap] at h
    split at h
    ·rename_i q
     have : ¬ 0 < r := fun z => e ⟨q, z⟩
     omega
    ·omega
   obtain ⟨i, r', h1, h2⟩ := b0G this
   exact ⟨i + 1, r', by rw [List.getElem?_cons_succ]; exact h1, by rw [List.getElem?_cons_succ]; exact h2⟩
theorem a5J : ∀ {us : List Int} {room : List Nat} {i r : Nat} {u : Int} (v : Int), us[i]? = some u → room[i]? = some (r + 1) → cap us room v = cap us (room.set i r) v + (if u = v then 1 else 0)
 | [], room, i, r, u, v, h, _ => by simp at h
 | u0 :: us, [], i, r, u, v, _, h => by simp at h
 | u0 :: us, r0 :: room, 0, r, u, v, h1, h2 => by
  simp at h1 h2
  subst h1
  subst h2
  simp only [cap, List.set_cons_zero]
  split <;> omega
 | u0 :: us, r0 :: room, i + 1, r, u, v, h1, h2 => by
  rw [List.getElem?_cons_succ] at h1 h2
  have := a5J v h1 h2
  simp only [cap, List.set_cons_succ]
  omega
theorem a5N : ∀ (us : List Int) (w : Nat) (v : Int), cap us (List.replicate us.length w) v = w * us.count v
 | [], w, v => rfl
 | u :: us, w, v => by
  rw [List.length_cons, List.replicate_succ, List.count_cons]
  simp only [cap]
  rw [a5N us w v, Nat.mul_add]
  by_cases e : u = v
  ·simp [e]; omega
  ·simp [e]
theorem b6x {us : List Int} : ∀ (A : List (Int × Int)) (room : List Nat), (∀ p ∈ A, V2 p.1 p.2 < 2) → (∀ v, A.countP (fun p => decide (p.2 = v)) ≤ cap us room v) → Plc us (A.map (·.1)) room (b2h A)
 | [], room, _, _ => rfl
 | p :: A, room, h1, h2 => by
  have hp := h2 p.2
  rw [List.countP_cons_of_pos (by simp)] at hp
  obtain ⟨i, r, e1, e2⟩ := b0G (us := us) (room := room) (v := p.2) (by omega)
  have ih := b6x (us := us) A (room.set i r) (fun q hq => h1 q (List.mem_cons_of_mem _ hq)) (fun v => by
   have hv := h2 v
   have hs := a5J v e1 e2
   rw [List.countP_cons] at hv
   by_cases e : p.2 = v
   ·simp only [e, decide_true, if_true] at hv hs
    omega
   ·simp only [e, decide_false, if_false, Bool.false_eq_true] at hv hs
    omega)
  exact ⟨i, p.2, r, _, e1, e2, h1 p (List.mem_cons_self ..), ih, v3 p A⟩
theorem b7q {us : List Int} : ∀ {ws : List Int} {room : List Nat} {c : Int}, Plc us ws room c → ∃ A : List (Int × Int), A.map (·.1) = ws ∧ (∀ p ∈ A, V2 p.1 p.2 < 2 ∧ p.2 ∈ us) ∧ (∀ v, A.countP (fun p => decide (p.2 = v)) ≤ cap us room v) ∧ c = b2h A
 | [], room, c, h => ⟨[], rfl, (fun _ h => nomatch h), fun v => Nat.zero_le _, h⟩
 | x :: ws, room, c, h => by
  obtain ⟨i, u, r, c', e1, e2, e3, e4, e5⟩ := h
  obtain ⟨A, a1, a2, a3, a4⟩ := b7q e4
  refine ⟨(x, u) :: A, by rw [List.map_cons, a1], fun p hp => ?_, fun v => ?_, by rw [v3, e5, a4]⟩
  ·rcases List.mem_cons.mp hp with q | q
   ·subst q
    exact ⟨e3, List.mem_of_getElem? e1⟩
   ·exact a2 p q
  ·have := a3 v
   have hs := a5J v e1 e2
   rw [List.countP_cons]
   by_cases e : u = v
   ·simp only [e, decide_true, if_true] at hs ⊢
    omega
   ·simp only [e, decide_false, if_false, Bool.false_eq_true] at hs ⊢
    omega
def J1 (f : Nat → Nat) : Nat → Nat
 | 0 => 0
 | n + 1 => J1 f n + f n
theorem sim {w h : Nat} {cs : List Nat} (xm x0 xp n : Nat → Nat) (hc : ∀ u, 1 ≤ u → u ≤ 31 → ct cs u = ((xm u + x0 u + xp u : Nat) : Int)) (h0 : xm 1 = 0) (hp0 : xp 0 = 0)
  (hcap : ∀ u, u < 30 → xm (u + 2) + x0 (u + 1) + xp u ≤ w * n (u + 1)) (hr : J1 (fun u => n (u + 1)) 30 ≤ h) :
  ∀ u, u ≤ 30 → ∃ st c ps, Way (w : Int) (h : Int) cs u st c ps ∧ st.1 = ((J1 (fun u => n (u + 1)) u : Nat) : Int) ∧ (∃ F : Int, (xm (u + 1) : Int) ≤ F ∧ min (F - (xp u : Int)) (ct cs (u + 1)) ≤ st.2) ∧ c ≤ ((J1 (fun u => xm (u + 1) + xp u) u : Nat) : Int) := by
 intro u
 induction u with
 | zero =>
  intro _
  refine ⟨(0, 0), 0, [], .zero, rfl, ⟨0, by rw [h0]; simp, ?_⟩, by simp [J1]⟩
  rw [hp0]
  simp
  exact Int.min_le_left ..
 | succ u ih =>
  intro hu
  obtain ⟨st, c, ps, y, y1, ⟨F, f1, f2⟩, y3⟩ := ih (by omega)
  have mono : ∀ {a b : Nat}, a ≤ b → J1 (fun u => n (u + 1)) a ≤ J1 (fun u => n (u + 1)) b := fun {a b} hab => by
   induction hab with
   | refl => exact Nat.le_refl _
   | step _ ih => exact Nat.le_trans ih (Nat.le_add_right _ _)
  have hm : J1 (fun u => n (u + 1)) (u + 1) ≤ h := Nat.le_trans (mono hu) hr
  have hm' : J1 (fun u => n (u + 1)) (u + 1) = J1 (fun u => n (u + 1)) u + n (u + 1) := rfl
  have hs' : J1 (fun u => xm (u + 1) + xp u) (u + 1) = J1 (fun u => xm (u + 1) + xp u) u + (xm (u + 1) + xp u) := rfl
  have cu := hc (u + 1) (by omega) (by omega)
  have cn := hc (u + 2) (by omega) (by omega)
  have cp := hcap u (by omega)
  have wn : ((w * n (u + 1) : Nat) : Int) = (w : Int) * (n (u + 1) : Int) := Int.natCast_mul ..
  obtain ⟨WN, hWN⟩ : ∃ WN, WN = (w : Int) * (n (u + 1) : Int) := ⟨_, rfl⟩
  rw [← hWN] at wn
  obtain ⟨s, hs⟩ : ∃ s, s = st.2 := ⟨_, rfl⟩
  rw [← hs] at f2
  obtain ⟨l, l0, l1, l2, l3, l4, l5⟩ : ∃ l : Int, 0 ≤ l ∧ l ≤ ct cs (u + 1) ∧ l ≤ max 0 s ∧ wt s + l ≤ (xm (u + 1) : Int) + (xp u : Int) ∧ (xm (u + 1) : Int) - (xp u : Int) ≤ l - wt s ∧ wt s ≤ (xp u : Int) := by
   by_cases h : 0 ≤ s
   ·have e : wt s = 0 := by unfold wt; rw [if_neg (by omega)]
    refine ⟨max 0 ((xm (u + 1) : Int) - (xp u : Int)), ?_⟩
    rw [e]
    omega
   ·have e : wt s = -s := by unfold wt; rw [if_pos (by omega)]
    refine ⟨0, ?_⟩
    rw [e]
    omega
  have on : onP (w : Int) (ct cs (u + 1)) (ct cs (u + 2)) st.2 (n (u + 1) : Int) l = some (min (WN - wt s - (ct cs (u + 1) - l)) (ct cs (u + 2)), wt s + l) := by
   unfold onP
   rw [← hs, ← hWN, if_neg (by omega)]
  refine ⟨_, _, _, .succ y (by omega) l0 (by omega) l1 (by rw [← hs]; exact l2) on, ?_, ⟨WN - (xp u : Int) - (x0 (u + 1) : Int), (by show (xm (u + 2) : Int) ≤ _; omega), ?_⟩, ?_⟩
  ·show st.1 + _ = _
   omega
  ·show _ ≤ min (WN - wt s - (ct cs (u + 1) - l)) (ct cs (u + 2))
   have : u + 1 + 1 = u + 2 := rfl
   rw [this]
   omega
  ·omega
end BV
namespace BV
open PySem L2
theorem a1V {f : Nat → Nat} {u0 k : Nat} (h : ∀ u, f u ≤ if u = u0 then k else 0) : ∀ n, J1 f n ≤ if u0 < n then k else 0
 | 0 => by simp [J1]
 | n + 1 => by
  have ih := a1V h n
  have hn := h n
  show J1 f n + f n ≤ _
  by_cases e : n = u0
  ·rw [if_pos e] at hn
   rw [if_neg (by omega)] at ih
   rw [if_pos (by omega)]
   omega
  ·rw [if_neg e] at hn
   by_cases e2 : u0 < n
   ·rw [if_pos e2] at ih
    rw [if_pos (by omega)]
    omega
   ·rw [if_neg e2] at ih
    rw [if_neg (by omega)]
    omega
theorem a1W (f g : Nat → Nat) : ∀ n, J1 (fun u => f u + g u) n = J1 f n + J1 g n
 | 0 => rfl
 | n + 1 => by
  show J1 _ n + _ = (J1 f n + f n) + (J1 g n + g n)
  rw [a1W f g n]
  show _ + (f n + g n) = _
  omega
theorem a0n : ∀ n, J1 (fun _ => 0) n = 0
 | 0 => rfl
 | n + 1 => by show J1 _ n + 0 = 0; rw [a0n n]
theorem a9U {f g : Nat → Nat} (h : ∀ u, f u ≤ g u) : ∀ n, J1 f n ≤ J1 g n
 | 0 => Nat.le_refl _
 | n + 1 => Nat.add_le_add (a9U h n) (h n)
theorem a3j : ∀ (us : List Int) (n : Nat), J1 (fun u => us.count (((u + 1 : Nat) : Int))) n ≤ us.length
 | [], n => by
  have : J1 (fun u => ([] : List Int).count (((u + 1 : Nat) : Int))) n = J1 (fun _ => 0) n := rfl
  rw [this, a0n]
  exact Nat.zero_le _
 | x :: us, n => by
  have e : J1 (fun u => (x :: us).count (((u + 1 : Nat) : Int))) n = J1 (fun u => us.count (((u + 1 : Nat) : Int)) + (if x = ((u + 1 : Nat) : Int) then 1 else 0)) n := by
   congr 1
   funext u
   rw [List.count_cons]
   simp
  rw [e, a1W, List.length_cons]
  have ih := a3j us n
  have o := a1V (f := fun u => if x = ((u + 1 : Nat) : Int) then 1 else 0) (u0 := (x - 1).toNat) (k := 1) (fun u => by
   by_cases q : x = ((u + 1 : Nat) : Int)
   ·rw [if_pos q, if_pos (by omega)]; exact Nat.le_refl _
   ·rw [if_neg q]; exact Nat.zero_le _) n
  have : (if (x - 1).toNat < n then 1 else 0) ≤ 1 := by split <;> omega
  omega
def kA (A : List (Int × Int)) (x u : Int) : Nat := A.countP fun p => decide (p.1 = x ∧ p.2 = u)
theorem J0 (p : Int × Int) (A : List (Int × Int)) (x u : Int) : kA (p :: A) x u = kA A x u + (if p.1 = x ∧ p.2 = u then 1 else 0) := by
 unfold kA
 rw [List.countP_cons]
 simp
theorem a4o {A : List (Int × Int)} {x u : Int} (h : ∀ p ∈ A, ¬ (p.1 = x ∧ p.2 = u)) : kA A x u = 0 := by
 unfold kA
 rw [List.countP_eq_zero]
 intro p hp
 simpa using h p hp
theorem a7D : ∀ {A : List (Int × Int)} {x : Int}, (∀ p ∈ A, V2 p.1 p.2 < 2) → (A.map (·.1)).countP (fun y => decide (y = x)) = kA A x (x - 1) + kA A x x + kA A x (x + 1)
 | [], x, _ => rfl
 | p :: A, x, h => by
  have ih := a7D (x := x) fun q hq => h q (List.mem_cons_of_mem _ hq)
  have hp := h p (List.mem_cons_self ..)
  unfold V2 at hp
  rw [List.map_cons, List.countP_cons, ih, J0, J0, J0]
  by_cases e : p.1 = x
  ·have : p.2 = x - 1 ∨ p.2 = x ∨ p.2 = x + 1 := by omega
   rcases this with q | q | q
   ·rw [if_pos (by simpa using e), if_pos ⟨e, q⟩, if_neg (by omega), if_neg (by omega)]; omega
   ·rw [if_pos (by simpa using e), if_neg (by omega), if_pos ⟨e, q⟩, if_neg (by omega)]; omega
   ·rw [if_pos (by simpa using e), if_neg (by omega), if_neg (by omega), if_pos ⟨e, q⟩]; omega
  ·rw [if_neg (by simpa using e), if_neg (by omega), if_neg (by omega), if_neg (by omega)]; omega
theorem b0D : ∀ (A : List (Int × Int)) (u : Int), kA A (u + 1) u + kA A u u + kA A (u - 1) u ≤ A.countP fun p => decide (p.2 = u)
 | [], u => Nat.le_refl _
 | p :: A, u => by
  have ih := b0D A u
  rw [List.countP_cons, J0, J0, J0]
  by_cases e : p.2 = u
  ·rw [if_pos (c := decide (p.2 = u) = true) (by simpa using e)]
   repeat' split
   all_goals omega
  ·rw [if_neg (c := decide (p.2 = u) = true) (by simpa using e), if_neg (by omega), if_neg (by omega), if_neg (by omega)]
   omega
theorem b3h : ∀ (A : List (Int × Int)) (n : Nat), ((J1 (fun u => kA A ((u + 1 : Nat) : Int) (u : Int) + kA A (u : Int) ((u + 1 : Nat) : Int)) n : Nat) : Int) ≤ b2h A
 | [], n => by
  have : J1 (fun u => kA [] ((u + 1 : Nat) : Int) (u : Int) + kA [] (u : Int) ((u + 1 : Nat) : Int)) n = J1 (fun _ => 0) n := rfl
  rw [this, a0n]
  exact Int.le_refl _
 | p :: A, n => by
  have ih := b3h A n
  have e : J1 (fun u => kA (p :: A) ((u + 1 : Nat) : Int) (u : Int) + kA (p :: A) (u : Int) ((u + 1 : Nat) : Int)) n =
    J1 (fun u => (kA A ((u + 1 : Nat) : Int) (u : Int) + kA A (u : Int) ((u + 1 : Nat) : Int)) + ((if p.1 = ((u + 1 : Nat) : Int) ∧ p.2 = (u : Int) then 1 else 0) + (if p.1 = (u : Int) ∧ p.2 = ((u + 1 : Nat) : Int) then 1 else 0))) n := by
   congr 1
   funext u
   rw [J0, J0]
   omega
  rw [e, a1W, v3]
  have o := a1V (f := fun u => (if p.1 = ((u + 1 : Nat) : Int) ∧ p.2 = (u : Int) then 1 else 0) + (if p.1 = (u : Int) ∧ p.2 = ((u + 1 : Nat) : Int) then 1 else 0)) (u0 := (min p.1 p.2).toNat) (k := (p.1 - p.2).natAbs) (fun u => by
   by_cases q : p.1 = ((u + 1 : Nat) : Int) ∧ p.2 = (u : Int)
   ·rw [if_pos q, if_neg (by omega), if_pos (by omega)]; omega
   ·rw [if_neg q]
    by_cases q2 : p.1 = (u : Int) ∧ p.2 = ((u + 1 : Nat) : Int)
    ·rw [if_pos q2, if_pos (by omega)]; omega
    ·rw [if_neg q2]; exact Nat.zero_le _) n
  have : (if (min p.1 p.2).toNat < n then (p.1 - p.2).natAbs else 0) ≤ (p.1 - p.2).natAbs := by split <;> omega
  unfold V2
  omega
section
variable {w h : Nat} {ls : List (Str × Int)} {c : Int}
theorem b25 {us : List Int} (hls : ∀ p ∈ ls, 1 ≤ p.2 ∧ p.2 ≤ 30) (hl : us.length = h) (hu : ∀ u ∈ us, 1 ≤ u ∧ u ≤ 30) (p : Plc us (ls.map (·.2)) (List.replicate h w) c) :
  ∃ st c' ps, Way (w : Int) (h : Int) (O6 ls) 30 st c' ps ∧ 0 ≤ st.2 ∧ c' ≤ c := by
 obtain ⟨A, a1, a2, a3, a4⟩ := b7q p
 have aw : ∀ q ∈ A, 1 ≤ q.1 ∧ q.1 ≤ 30 := fun q hq => by
  have : q.1 ∈ ls.map (·.2) := by rw [← a1]; exact List.mem_map.mpr ⟨q, hq, rfl⟩
  obtain ⟨x, hx, e⟩ := List.mem_map.mp this
  rw [← e]
  exact hls x hx
 have au : ∀ q ∈ A, 1 ≤ q.2 ∧ q.2 ≤ 30 := fun q hq => hu _ (a2 q hq).2
 have cp : ∀ v, A.countP (fun p => decide (p.2 = v)) ≤ w * us.count v := fun v => by
  rw [← a5N us w v, hl]
  exact a3 v
 obtain ⟨st, c', ps, y, y1, ⟨F, f1, f2⟩, y3⟩ := sim (w := w) (h := h) (cs := O6 ls) (fun u => kA A (u : Int) ((u : Int) - 1)) (fun u => kA A (u : Int) (u : Int)) (fun u => kA A (u : Int) ((u + 1 : Nat) : Int)) (fun u => us.count (u : Int))
  (fun u u1 u2 => by
   rw [a0O (by omega)]
   have e : b0a ls u = (A.map (·.1)).countP fun y => decide (y = (u : Int)) := by
    rw [a1, List.countP_map]
    rfl
   rw [e, a7D fun q hq => (a2 q hq).1]
   rfl)
  (a4o fun q hq => by have := au q hq; omega) (a4o fun q hq => by have := aw q hq; omega)
  (fun u hu => by
   have h1 := b0D A (((u + 1 : Nat) : Int))
   have h2 := cp (((u + 1 : Nat) : Int))
   have e1 : ((u + 1 : Nat) : Int) + 1 = ((u + 2 : Nat) : Int) := by omega
   have e2 : ((u + 1 : Nat) : Int) - 1 = (u : Int) := by omega
   have e3 : ((u + 2 : Nat) : Int) - 1 = ((u + 1 : Nat) : Int) := by omega
   rw [e1, e2] at h1
   show kA A ((u + 2 : Nat) : Int) (((u + 2 : Nat) : Int) - 1) + kA A ((u + 1 : Nat) : Int) ((u + 1 : Nat) : Int) + kA A (u : Int) ((u + 1 : Nat) : Int) ≤ _
   rw [e3]
   exact Nat.le_trans h1 h2)
  (by have := a3j us 30; omega) 30 (Nat.le_refl _)
 refine ⟨st, c', ps, y, ?_, ?_⟩
 ·have z : kA A ((30 : Nat) : Int) ((30 + 1 : Nat) : Int) = 0 := a4o fun q hq => by have := au q hq; omega
  have := E1 (O6 ls) 31
  replace f2 : min (F - ((kA A ((30 : Nat) : Int) ((30 + 1 : Nat) : Int) : Nat) : Int)) (ct (O6 ls) (30 + 1)) ≤ st.2 := f2
  rw [z] at f2
  have f3 : (0 : Int) ≤ F := by
   have : (0 : Int) ≤ ((kA A ((30 + 1 : Nat) : Int) (((30 + 1 : Nat) : Int) - 1) : Nat) : Int) := Int.natCast_nonneg _
   exact Int.le_trans this f1
  have e : (30 + 1 : Nat) = 31 := rfl
  rw [e] at f2
  omega
 ·rw [a4]
  refine Int.le_trans y3 (Int.le_trans (Int.ofNat_le.mpr (a9U (fun u => ?_) 30)) (b3h A 30))
  have e3 : ((u + 1 : Nat) : Int) - 1 = (u : Int) := by omega
  show kA A ((u + 1 : Nat) : Int) (((u + 1 : Nat) : Int) - 1) + kA A (u : Int) ((u + 1 : Nat) : Int) ≤ _
  rw [e3]
  exact Nat.le_refl _
theorem a9I {α β : Type} {f : α → β} {l1 l2 : List β} (p : l1.Perm l2) : ∀ {A : List α}, A.map f = l1 → ∃ B : List α, B.Perm A ∧ B.map f = l2 := by
 induction p with
 | nil => exact fun {A} h => ⟨A, .refl _, h⟩
 | cons x _ ih =>
  intro A h
  cases A with
  | nil => cases h
  | cons a A =>
   injection h with h1 h2
   obtain ⟨B, b1, b2⟩ := ih h2
   exact ⟨a :: B, b1.cons a, by rw [List.map_cons, h1, b2]⟩
 | swap x y l =>
  intro A h
  match A, h with
  | a :: b :: A, h =>
   injection h with h1 h2
   injection h2 with h2 h3
   exact ⟨b :: a :: A, .swap .., by rw [List.map_cons, List.map_cons, h1, h2, h3]⟩
 | trans _ _ ih1 ih2 =>
  intro A h
  obtain ⟨B, b1, b2⟩ := ih1 h
  obtain ⟨C, c1, c2⟩ := ih2 b2
  exact ⟨C, c1.trans b1, c2⟩
theorem b0z {A B : List (Int × Int)} (p : A.Perm B) : b2h A = b2h B := by
 induction p with
 | nil => rfl
 | cons x _ ih => rw [v3, v3, ih]
 | swap x y l => rw [v3, v3, v3, v3]; omega
 | trans _ _ ih1 ih2 => rw [ih1, ih2]
theorem T8 {u v : Int} : ∀ (r : List d7), (M1 u r).countP (fun a => decide (a.1 = v)) ≤ if u = v then r.length else 0
 | [] => Nat.zero_le _
 | none :: r => by
  have e : M1 u (none :: r) = M1 u r := rfl
  have ih := T8 (u := u) (v := v) r
  rw [e]
  refine Nat.le_trans ih ?_
  split
  ·rw [List.length_cons]; omega
  ·exact Nat.le_refl _
 | some p :: r => by
  have e : M1 u (some p :: r) = (u, p.1, p.2) :: M1 u r := rfl
  have ih := T8 (u := u) (v := v) r
  rw [e, List.countP_cons]
  by_cases q : u = v
  ·rw [if_pos q] at ih ⊢
   rw [List.length_cons]
   split <;> omega
  ·rw [if_neg q] at ih ⊢
   rw [if_neg (by simpa using q)]
   exact ih
theorem a2L {v : Int} : ∀ {us : List Int} {rs : List (List d7)}, us.length = rs.length → (∀ r ∈ rs, r.length = w) → (p7 us rs).countP (fun a => decide (a.1 = v)) ≤ w * us.count v
 | [], [], _, _ => Nat.zero_le _
 | [], _ :: _, h, _ => by simp at h
 | _ :: _, [], h, _ => by simp at h
 | u :: us, r :: rs, h, hw => by
  have ih := a2L (v := v) (us := us) (rs := rs) (by simpa using h) fun r hr => hw r (List.mem_cons_of_mem _ hr)
  have h1 := T8 (u := u) (v := v) r
  have h2 := hw r (List.mem_cons_self ..)
  rw [n8, List.countP_append, List.count_cons, Nat.mul_add]
  by_cases q : u = v
  ·rw [if_pos q] at h1
   rw [if_pos (by simpa using q)]
   omega
  ·rw [if_neg q] at h1
   rw [if_neg (by simpa using q)]
   omega
theorem b0P : ∀ {us : List Int} {rs : List (List d7)} {a : UC}, a ∈ p7 us rs → a.1 ∈ us := by
 intro us rs a h
 unfold p7 at h
 obtain ⟨q, hq, h2⟩ := List.mem_flatMap.mp h
 unfold M1 at h2
 obtain ⟨cc, _, h3⟩ := List.mem_filterMap.mp h2
 cases cc with
 | none => cases h3
 | some p =>
  have : (q.1, p.1, p.2) = a := Option.some.inj h3
  rw [← this]
  exact (List.of_mem_zip hq).1
theorem b3U {units : List Int} {rows : List (List d7)} (k : Laid w h ls c units rows) {lo hi : Int} (h1 : 1 ≤ lo) (h2 : hi ≤ 30) (h3 : lo ≤ hi) (hlo : ∀ p ∈ ls, lo ≤ max 1 (p.2 - 1)) (hhi : ∀ p ∈ ls, min 30 (p.2 + 1) ≤ hi) :
  ∃ us : List Int, us.length = h ∧ us.Pairwise (· ≤ ·) ∧ (∀ u ∈ us, lo ≤ u ∧ u ≤ hi) ∧ Plc us (ls.map (·.2)) (List.replicate h w) c := by
 obtain ⟨u0, A, p1, p2, p3, p4⟩ := k.cells
 obtain ⟨us, hus⟩ : ∃ us, us = (units.map fun u => max lo (min hi u)).mergeSort (fun a b => decide (a ≤ b)) := ⟨_, rfl⟩
 have pm : us.Perm (units.map fun u => max lo (min hi u)) := by rw [hus]; exact List.mergeSort_perm _ _
 have len : us.length = h := by rw [pm.length_eq, List.length_map, k.hu]
 have srt : us.Pairwise (· ≤ ·) := by
  have := List.pairwise_mergeSort (le := fun (a b : Int) => decide (a ≤ b)) (fun a b c h1 h2 => by simp at *; omega) (fun a b => by simp; omega) (units.map fun u => max lo (min hi u))
  rw [← hus] at this
  exact this.imp fun h => by simpa using h
 have rng : ∀ u ∈ us, lo ≤ u ∧ u ≤ hi := fun u hu => by
  obtain ⟨x, _, e⟩ := List.mem_map.mp (pm.mem_iff.mp hu)
  omega
 have cnt : ∀ v, lo ≤ v → v ≤ hi → units.count v ≤ us.count v := fun v v1 v2 => by
  rw [pm.count_eq]
  generalize units = U
  induction U with
  | nil => exact Nat.le_refl _
  | cons u U ih =>
   rw [List.map_cons, List.count_cons, List.count_cons]
   by_cases q : u = v
   ·rw [if_pos (by simpa using q), if_pos (by simp; omega)]
    omega
   ·rw [if_neg (by simpa using q)]
    omega
 refine ⟨us, len, srt, rng, ?_⟩
 obtain ⟨B, b1, b2⟩ := a9I (f := fun q : Int × Int => q.1) (l1 := (A.map lw).map (·.2)) (l2 := ls.map (·.2)) (p2.map _) (A := A.map fun a => (a.1 + a.2.2, a.1)) (by rw [List.map_map, List.map_map]; rfl)
 have hc : b2h B = c := by
  rw [b0z b1, ← p4]
  clear p1 p2 p4 b1
  induction A with
  | nil => rfl
  | cons a A ih =>
   have ha := p3 a (List.mem_cons_self ..)
   rw [List.map_cons, v3, ih fun b hb => p3 b (List.mem_cons_of_mem _ hb), List.countP_cons]
   unfold V2 nzB
   rcases ha with q | q | q
   ·rw [if_neg (by simp [q])]; simp [q]
   ·rw [if_pos (by simp [q])]; simp [q]; omega
   ·rw [if_pos (by simp [q])]; simp [q]; omega
 rw [← b2, ← hc]
 refine b6x B _ (fun q hq => ?_) fun v => ?_
 ·obtain ⟨a, ha, e⟩ := List.mem_map.mp (b1.mem_iff.mp hq)
  have := p3 a ha
  subst e
  unfold V2
  show ((a.1 + a.2.2 - a.1).natAbs : Int) < 2
  omega
 ·rw [← len, a5N]
  rw [b1.countP_eq, List.countP_map]
  by_cases z : A.countP ((fun p : Int × Int => decide (p.2 = v)) ∘ fun a : UC => (a.1 + a.2.2, a.1)) = 0
  ·rw [z]; exact Nat.zero_le _
  ·have zp : 0 < A.countP ((fun p : Int × Int => decide (p.2 = v)) ∘ fun a : UC => (a.1 + a.2.2, a.1)) := by omega
   obtain ⟨a, ha, e⟩ := List.countP_pos_iff.mp zp
   have e' : a.1 = v := by simpa using e
   have hp : lw a ∈ ls := p2.mem_iff.mp (List.mem_map.mpr ⟨a, ha, rfl⟩)
   have hx : (lw a).2 = a.1 + a.2.2 := rfl
   have l1 := hlo _ hp
   have l2 := hhi _ hp
   rw [hx] at l1 l2
   have hcam := p3 a ha
   have hun := k.un a.1 (b0P (p1.mem_iff.mpr (List.mem_cons_of_mem _ ha)))
   have hv := cnt v (by omega) (by omega)
   have hcells : A.countP (fun a => decide (a.1 = v)) ≤ (p7 units rows).countP (fun a => decide (a.1 = v)) := by
    rw [p1.countP_eq, List.countP_cons]
    exact Nat.le_add_right _ _
   have := a2L (w := w) (v := v) (us := units) (rs := rows) (by rw [k.hu, k.hr]) k.hw
   exact Nat.le_trans (Nat.le_trans hcells this) (Nat.mul_le_mul_left _ hv)
end
end BV
namespace BV
open PySem L2
def oiD : Option Int → D
 | .none => .none
 | some i => .int i
def G8 (room : List Nat) : D := .list (room.map fun (r : Nat) => PyData.int (r : Int))
def b8c (us : List Int) (f : Fn) (n : Nat) : Prop := ∀ (S : Sto) (ws : List Int) (room : List Nat), ws.length ≤ n → us.length = room.length → lfS S = true →
 ∃ o, f [.val (.list (ws.map PyData.int)), .val (.list (us.map PyData.int)), .val (G8 room)] S = .ok (.val (oiD o)) S ∧ IsMinP (Plc us ws room) o
theorem b0t {o p : Option Int} {x : Int} : b1d o (p.map (x + ·)) = match p with
 | none => o
 | some m => (match o with
  | none => some (x + m)
  | some b => if x + m < b then some (x + m) else some b) := by
 cases o <;> cases p <;> rfl
def b2k (us : List Int) (x : Int) (ws : List Int) (room : List Nat) (n : Nat) (c : Int) : Prop := ∃ (i : Nat) (u : Int) (r : Nat) (c' : Int), i < n ∧ us[i]? = some u ∧ room[i]? = some (r + 1) ∧ V2 x u < 2 ∧ Plc us ws (room.set i r) c' ∧ c = V2 x u + c'
theorem a9B {α : Type} : ∀ {l : List α} {i : Nat} (x : α), i < l.length → l.take i ++ [x] ++ l.drop (i + 1) = l.set i x
 | [], _, _, h => by simp at h
 | a :: l, 0, x, _ => rfl
 | a :: l, i + 1, x, h => by
  have := a9B (l := l) (i := i) x (by simpa using h)
  rw [List.take_succ_cons, List.drop_succ_cons, List.set_cons_succ, ← this]
  rfl
section
variable {us : List Int} {f : Fn} {n : Nat} {S : Sto}
theorem a8A (hf : b8c us f n) {x : Int} {ws : List Int} {room : List Nat} (hw : ws.length ≤ n) (hn : n ≤ 100) (hl : us.length = room.length) (hl2 : us.length ≤ 100) (hS : lfS S = true) {i : Nat} (hi : i < us.length) {o : Option Int} (ho : IsMinP (b2k us x ws room i) o) {y5 y6 y7 : Option T} :
  ∃ o' z5 z6 z7, F3 f [some (.val (.list ((x :: ws).map PyData.int))), some (.val (.list (us.map PyData.int))), some (.val (G8 room)), some (.val (oiD o)), some (.val (.int (i : Int))), y5, y6, y7] S =
   .nx [some (.val (.list ((x :: ws).map PyData.int))), some (.val (.list (us.map PyData.int))), some (.val (G8 room)), some (.val (oiD o')), some (.val (.int (i : Int))), z5, z6, z7] S ∧ IsMinP (b2k us x ws room (i + 1)) o' := by
 obtain ⟨u, hu⟩ : ∃ u, us[i]? = some u := ⟨_, List.getElem?_eq_getElem hi⟩
 obtain ⟨r, hr⟩ : ∃ r, room[i]? = some r := ⟨_, List.getElem?_eq_getElem (by omega)⟩
 have i0 : gIx (.list ((x :: ws).map PyData.int)) (.int 0) = some (.val (.int x)) := by rw [List.map_cons, C2, show (0 : Int) = ((0 : Nat) : Int) from rfl, u9 (v := PyData.int x) rfl]; rfl
 have i1 : gIx (.list (us.map PyData.int)) (.int (i : Int)) = some (.val (.int u)) := by
  rw [C2, u9 (by rw [List.getElem?_map, hu]; rfl)]; rfl
 have i2 : gIx (G8 room) (.int (i : Int)) = some (.val (.int (r : Int))) := by
  unfold G8
  rw [C2, u9 (by rw [List.getElem?_map, hr]; rfl)]; rfl
 have ab : (if x - u < 0 then -(x - u) else x - u) = V2 x u := by unfold V2; split <;> omega
 have o0 := b1l x u
 unfold F3
 by_cases hc : 0 < r ∧ V2 x u < 2
 ·obtain ⟨h1, h2⟩ := hc
  obtain ⟨q, rfl⟩ : ∃ q, r = q + 1 := ⟨r - 1, by omega⟩
  obtain ⟨p, ep, hp⟩ := hf S ws (room.set i q) hw (by rw [List.length_set]; exact hl) hS
  have hopt : IsMinP (fun c => ∃ c', Plc us ws (room.set i q) c' ∧ c = V2 x u + c') (p.map (V2 x u + ·)) := by
   cases p with
   | none => rintro c ⟨c', t, rfl⟩; exact hp c' t
   | some b =>
    refine ⟨⟨b, hp.1, rfl⟩, ?_⟩
    rintro c ⟨c', t, rfl⟩
    have := hp.2 c' t
    show V2 x u + b ≤ _
    omega
  have hfin : IsMinP (b2k us x ws room (i + 1)) (b1d o (p.map (V2 x u + ·))) := (ho.or hopt).congr fun c => by
   constructor
   ·rintro (⟨j, v, r', c', a1, a2, a3, a4, a5, a6⟩ | ⟨c', a5, a6⟩)
    ·exact ⟨j, v, r', c', by omega, a2, a3, a4, a5, a6⟩
    ·exact ⟨i, u, q, c', by omega, hu, hr, h2, a5, a6⟩
   ·rintro ⟨j, v, r', c', a1, a2, a3, a4, a5, a6⟩
    by_cases e : j = i
    ·subst e
     rw [hu] at a2
     rw [hr] at a3
     cases a2
     have : r' = q := by injection a3 with a3; omega
     subst this
     exact .inr ⟨c', a5, a6⟩
    ·exact .inl ⟨j, v, r', c', by omega, a2, a3, a4, a5, a6⟩
  have c1 : Z2 (room.map fun (r : Nat) => PyData.int (r : Int)) none (some (i : Int)) = (room.take i).map fun (r : Nat) => PyData.int (r : Int) := by
   rw [a5W, List.length_map, Nat.min_eq_left (by omega), List.map_take]
  have c2 : Z2 (room.map fun (r : Nat) => PyData.int (r : Int)) (some ((i : Int) + 1)) none = (room.drop (i + 1)).map fun (r : Nat) => PyData.int (r : Int) := by
   rw [show (i : Int) + 1 = ((i + 1 : Nat) : Int) by omega, a0q (by rw [List.length_map]; omega), List.map_drop]
  have c3 : Z2 ((x :: ws).map PyData.int) (some 1) none = ws.map PyData.int := by
   rw [show (1 : Int) = ((1 : Nat) : Int) from rfl, a0q (by simp)]
   rfl
  have a1 : B2 (.list ((room.take i).map fun (r : Nat) => PyData.int (r : Int))) (.list [.int (((q + 1 : Nat) : Int) - 1)]) = some (.own ((room.take i).map (fun (r : Nat) => PyData.int (r : Int)) ++ [.int (q : Int)])) := by
   rw [Y4 (p6 (by simp; omega))]
   rw [show ((q + 1 : Nat) : Int) - 1 = (q : Int) by omega]
  have a2 : B2 (.list ((room.take i).map (fun (r : Nat) => PyData.int (r : Int)) ++ [.int (q : Int)])) (.list ((room.drop (i + 1)).map fun (r : Nat) => PyData.int (r : Int))) = some (.own ((room.set i q).map fun (r : Nat) => PyData.int (r : Int))) := by
   rw [Y4 (p6 (by simp; omega)), ← a9B q (by omega), List.map_append, List.map_append]
   rfl
  have s1 : gSl (G8 room) none (some (i : Int)) = some (.own ((room.take i).map fun (r : Nat) => PyData.int (r : Int))) := by unfold G8; rw [K4, c1]
  have s2 : gSl (G8 room) (some ((i : Int) + 1)) none = some (.own ((room.drop (i + 1)).map fun (r : Nat) => PyData.int (r : Int))) := by unfold G8; rw [K4, c2]
  have s3 : gSl (.list ((x :: ws).map PyData.int)) (some 1) none = some (.own (ws.map PyData.int)) := by rw [K4, c3]
  have lo : lf (oiD p) = true := by cases p <;> rfl
  have h1' : (0 : Int) < ((q + 1 : Nat) : Int) := by omega
  refine ⟨b1d o (p.map (V2 x u + ·)), some (.val (.int (V2 x u))), some (.own ((room.set i q).map fun (r : Nat) => PyData.int (r : Int))), some (.val (oiD p)), ?_, hfin⟩
  rw [b0t]
  unfold G8 at ep
  generalize (room.set i q).map (fun (r : Nat) => PyData.int (r : Int)) = R2 at *
  generalize (room.take i).map (fun (r : Nat) => PyData.int (r : Int)) = RT at *
  generalize (room.drop (i + 1)).map (fun (r : Nat) => PyData.int (r : Int)) = RD at *
  generalize G8 room = R at *
  generalize us.map PyData.int = U at *
  generalize (x :: ws).map PyData.int = W at *
  generalize ws.map PyData.int = W1 at *
  generalize ((q + 1 : Nat) : Int) = Q1 at *
  rw [← ab] at *
  refine b9 (ρ1 := [some (.val (.list W)), some (.val (.list U)), some (.val R), some (.val (oiD o)), some (.val (.int (i : Int))), some (.val (.int (if x - u < 0 then -(x - u) else x - u))), y6, y7]) (S1 := S) (by simp [i0, i1, -C2]) ?_
  generalize (if x - u < 0 then -(x - u) else x - u) = F at *
  refine a7d (S1 := S) (by simp [i2, h1', h2, -C2]) ?_
  refine b9 (ρ1 := [some (.val (.list W)), some (.val (.list U)), some (.val R), some (.val (oiD o)), some (.val (.int (i : Int))), some (.val (.int F)), some (.own R2), y7]) (S1 := S) (by simp [s1, s2, i2, a1, a2, -C2, -K4]) ?_
  refine b9 (ρ1 := [some (.val (.list W)), some (.val (.list U)), some (.val R), some (.val (oiD o)), some (.val (.int (i : Int))), some (.val (.int F)), some (.own R2), some (.val (oiD p))]) (S1 := S) (by simp [s3, ep, lo, hS, -K4]) ?_
  cases p with
  | none => exact a2z (S1 := S) (by simp [oiD]) (by simp)
  | some b =>
   cases o with
   | none => exact a7d (S1 := S) (by simp [oiD]) (by simp [oiD])
   | some a =>
    by_cases h : F + b < a
    ·simp only [if_pos h]
     exact a7d (S1 := S) (by simp [oiD, h]) (by simp [oiD])
    ·simp only [if_neg h]
     exact a2z (S1 := S) (by simp [oiD, h]) (by simp)
 ·refine ⟨o, some (.val (.int (V2 x u))), y6, y7, ?_, ho.congr fun c => ?_⟩
  ·have hc' : ¬ ((0 : Int) < (r : Int) ∧ V2 x u < 2) := fun z => hc ⟨by omega, z.2⟩
   rw [← ab] at *
   generalize G8 room = R at *
   generalize us.map PyData.int = U at *
   generalize (x :: ws).map PyData.int = W at *
   refine b9 (ρ1 := [some (.val (.list W)), some (.val (.list U)), some (.val R), some (.val (oiD o)), some (.val (.int (i : Int))), some (.val (.int (if x - u < 0 then -(x - u) else x - u))), y6, y7]) (S1 := S) (by simp [i0, i1, -C2]) ?_
   generalize (if x - u < 0 then -(x - u) else x - u) = F at *
   generalize (r : Int) = RI at *
   by_cases h1 : (0 : Int) < RI
   ·have h2 : ¬ F < 2 := fun z => hc' ⟨h1, z⟩
    have h3 : 2 ≤ F := by omega
    exact a2z (S1 := S) (by simp [i2, h1, h2, h3, -C2]) (by simp)
   ·exact a2z (S1 := S) (by simp [i2, h1, -C2]) (by simp)
  ·constructor
   ·rintro ⟨j, v, r', c', a1, a2⟩
    exact ⟨j, v, r', c', by omega, a2⟩
   ·rintro ⟨j, v, r', c', a1, a2, a3, a4, a5⟩
    refine ⟨j, v, r', c', ?_, a2, a3, a4, a5⟩
    by_cases e : j = i
    ·subst e
     rw [hu] at a2
     rw [hr] at a3
     cases a2
     cases a3
     exact (hc ⟨by omega, a4⟩).elim
    ·omega
theorem a7T (hf : b8c us f n) (hn : n ≤ 100) (hl2 : us.length ≤ 100) : b8c us (fnL 8 (o4 f)) (n + 1) := by
 intro S ws room hw hl hS
 cases ws with
 | nil =>
  refine ⟨some 0, ?_, rfl, fun c h => by rw [show c = 0 from h]; exact Int.le_refl _⟩
  refine F7 ?_
  unfold o4
  have e1 : gEq false (.list (([] : List Int).map PyData.int)) (.list []) = some (.val (.bool true)) := rfl
  generalize ([] : List Int).map PyData.int = W at *
  generalize us.map PyData.int = U at *
  generalize G8 room = R at *
  rw [a8a, show sIf (cB (d9 (gEq false) (b7 0) (n9 m6))) (O3 (cC (.int 0))) t4 (start0 8 [.val (.list W), .val (.list U), .val R]) S = .rt (.val (.int 0)) S from a7d (S1 := S) (by simp [e1]) (by simp)]
  rfl
 | cons x ws =>
  have hw' : ws.length ≤ n := by simpa using hw
  obtain ⟨ρ', S', e, o, x4, x5, x6, x7, rfl, rfl, ho⟩ := v5 (b := f9 4) (body := F3 f)
   (fun i ρ S' => ∃ o x4 x5 x6 x7, ρ = [some (.val (.list ((x :: ws).map PyData.int))), some (.val (.list (us.map PyData.int))), some (.val (G8 room)), some (.val (oiD o)), x4, x5, x6, x7] ∧ S = S' ∧ IsMinP (b2k us x ws room i) o)
   (j8 0 us.length) 0 [some (.val (.list ((x :: ws).map PyData.int))), some (.val (.list (us.map PyData.int))), some (.val (G8 room)), some (.val .none), none, none, none, none] S
   ⟨none, none, none, none, none, rfl, rfl, fun c => by rintro ⟨i, u, r, c', h, _⟩; omega⟩ (by
    rintro i d ρ S' hd ⟨o, x4, x5, x6, x7, rfl, rfl, ho⟩
    obtain ⟨hi, rfl⟩ := G0 hd
    rw [Nat.zero_add] at ho
    obtain ⟨o', z5, z6, z7, e, ho'⟩ := a8A hf hw' hn hl hl2 hS hi ho (y5 := x5) (y6 := x6) (y7 := x7)
    exact ⟨_, rfl, _, _, .inl e, o', _, z5, z6, z7, rfl, rfl, by rw [Nat.zero_add]; exact ho'⟩)
  rw [Nat.zero_add, y0] at ho
  refine ⟨o, ?_, ho.congr fun c => ?_⟩
  ·refine F7 ?_
   unfold o4
   have e1 : gEq false (.list ((x :: ws).map PyData.int)) (.list []) = some (.val (.bool false)) := by
    rw [show (PyData.list []) = .list (([] : List Int).map PyData.int) from rfl, b8S (R4 _) (R4 [])]
    rfl
   have ln : a2g [.list (us.map PyData.int)] = some (.val (.int (us.length : Int))) := by rw [v7, List.length_map]
   have gr := a0o (n := us.length) (p6 (by omega))
   generalize (x :: ws).map PyData.int = W at *
   generalize us.map PyData.int = U at *
   generalize G8 room = R at *
   refine b9 (ρ1 := [some (.val (.list W)), some (.val (.list U)), some (.val R), none, none, none, none, none]) (S1 := S) (a2z (S1 := S) (by simp [e1]) (by simp)) ?_
   refine b9 (ρ1 := [some (.val (.list W)), some (.val (.list U)), some (.val R), some (.val .none), none, none, none, none]) (S1 := S) (by simp) ?_
   refine b9 (ρ1 := [some (.val (.list W)), some (.val (.list U)), some (.val R), some (.val (oiD o)), x4, x5, x6, x7]) (S1 := S) (by rw [← e]; simp [ln, gr, -v7]) ?_
   simp
  ·constructor
   ·rintro ⟨i, u, r, c', h, rest⟩
    exact ⟨i, u, r, c', rest⟩
   ·rintro ⟨i, u, r, c', h1, rest⟩
    exact ⟨i, u, r, c', (List.getElem?_eq_some_iff.mp h1).1, h1, rest⟩
theorem a3a (hl2 : us.length ≤ 100) : ∀ n, n ≤ 100 → b8c us (a9X 8 o4 (n + 1)) n
 | 0, _ => by
  intro S ws room hw hl hS
  have h0 : ws = [] := List.length_eq_zero_iff.mp (by omega)
  subst h0
  refine ⟨some 0, ?_, rfl, fun c h => by rw [show c = 0 from h]; exact Int.le_refl _⟩
  rw [a61]
  refine F7 ?_
  unfold o4
  have e1 : gEq false (.list (([] : List Int).map PyData.int)) (.list []) = some (.val (.bool true)) := rfl
  generalize ([] : List Int).map PyData.int = W at *
  generalize us.map PyData.int = U at *
  generalize G8 room = R at *
  rw [a8a, show sIf (cB (d9 (gEq false) (b7 0) (n9 m6))) (O3 (cC (.int 0))) t4 (start0 8 [.val (.list W), .val (.list U), .val R]) S = .rt (.val (.int 0)) S from a7d (S1 := S) (by simp [e1]) (by simp)]
  rfl
 | n + 1, h => by
  rw [a61]
  exact a7T (a3a hl2 n (by omega)) (by omega) hl2
theorem a73 {ws : List Int} {room : List Nat} (hl2 : us.length ≤ 100) (hw : ws.length ≤ 6) (hl : us.length = room.length) (hS : lfS S = true) :
  ∃ o, w8 [.val (.list (ws.map PyData.int)), .val (.list (us.map PyData.int)), .val (G8 room)] S = .ok (.val (oiD o)) S ∧ IsMinP (Plc us ws room) o := a3a hl2 6 (by omega) S ws room hw hl hS
end
end BV
namespace BV
open PySem L2
def usD (us : List Int) : D := .list (us.map PyData.int)
def uL (hi : Int) : Nat → Int → List (List Int)
 | 0, _ => [[]]
 | n + 1, lo => (List.range (hi + 1 - lo).toNat).flatMap fun (k : Nat) => (uL hi n (lo + (k : Int))).map ((lo + (k : Int)) :: ·)
theorem mem_uL {hi : Int} : ∀ {n : Nat} {lo : Int} {us : List Int}, us ∈ uL hi n lo ↔ us.length = n ∧ us.Pairwise (· ≤ ·) ∧ ∀ u ∈ us, lo ≤ u ∧ u ≤ hi
 | 0, lo, us => by
  show us ∈ [[]] ↔ _
  rw [List.mem_singleton]
  constructor
  ·rintro rfl; exact ⟨rfl, List.Pairwise.nil, fun _ h => nomatch h⟩
  ·rintro ⟨h, _⟩; exact List.length_eq_zero_iff.mp h
 | n + 1, lo, us => by
  show us ∈ (List.range (hi + 1 - lo).toNat).flatMap _ ↔ _
  rw [List.mem_flatMap]
  constructor
  ·rintro ⟨k, hk, h⟩
   obtain ⟨vs, hv, rfl⟩ := List.mem_map.mp h
   rw [List.mem_range] at hk
   obtain ⟨h1, h2, h3⟩ := mem_uL.mp hv
   refine ⟨by rw [List.length_cons, h1], List.pairwise_cons.mpr ⟨fun a ha => (h3 a ha).1, h2⟩, fun u hu => ?_⟩
   rcases List.mem_cons.mp hu with rfl | hu
   ·omega
   ·have := h3 u hu; omega
  ·rintro ⟨h1, h2, h3⟩
   cases us with
   | nil => cases h1
   | cons v vs =>
    have hv := h3 v (List.mem_cons_self ..)
    have hp := List.pairwise_cons.mp h2
    refine ⟨(v - lo).toNat, List.mem_range.mpr (by omega), ?_⟩
    have e : lo + ((v - lo).toNat : Int) = v := by omega
    rw [e]
    exact List.mem_map.mpr ⟨vs, mem_uL.mpr ⟨by simpa using h1, hp.2, fun u hu => ⟨hp.1 u hu, (h3 u (List.mem_cons_of_mem _ hu)).2⟩⟩, rfl⟩
theorem a1I {α β : Type} {f : α → List β} {k : Nat} : ∀ (xs : List α), (∀ x ∈ xs, (f x).length ≤ k) → (xs.flatMap f).length ≤ xs.length * k
 | [], _ => Nat.zero_le _
 | x :: xs, h => by
  have ih := a1I xs fun y hy => h y (List.mem_cons_of_mem _ hy)
  have := h x (List.mem_cons_self ..)
  rw [List.flatMap_cons, List.length_append, List.length_cons, Nat.add_mul]
  omega
theorem b2R {hi : Int} : ∀ (n : Nat) {lo : Int}, hi + 1 - lo ≤ 6 → (uL hi n lo).length ≤ 6 ^ n
 | 0, lo, _ => Nat.le_refl _
 | n + 1, lo, h => by
  have := a1I (f := fun (k : Nat) => (uL hi n (lo + (k : Int))).map ((lo + (k : Int)) :: ·)) (k := 6 ^ n) (List.range (hi + 1 - lo).toNat) fun k _ => by
   rw [List.length_map]
   exact b2R n (by omega)
  rw [List.length_range] at this
  refine Nat.le_trans this ?_
  rw [Nat.pow_succ, Nat.mul_comm]
  exact Nat.mul_le_mul_left _ (by omega)
def AOk (hi : Int) (f : Fn) (n : Nat) : Prop := ∀ (S : Sto) (lo : Int), 1 ≤ lo → lo ≤ 100 → hi + 1 - lo ≤ 6 → f [.val (.int lo), .val (.int hi), .val (.int (n : Int))] S = .ok (.own ((uL hi n lo).map usD)) S
section
variable {hi : Int} {f : Fn} {n : Nat} {S : Sto}
theorem b9B (lo : Int) : fnL 6 (j6 f) [.val (.int lo), .val (.int hi), .val (.int ((0 : Nat) : Int))] S = .ok (.own ((uL hi 0 lo).map usD)) S := by
 refine F7 ?_
 unfold j6
 rw [a8a, show sIf (cB (d9 (gEq false) (b7 2) (cC (.int 0)))) (O3 (n9 (d3 (n9 m6) m6))) t4 (start0 6 [.val (.int lo), .val (.int hi), .val (.int ((0 : Nat) : Int))]) S = .rt (.own [.list []]) S from a7d (S1 := S) (by simp) (by simp)]
 rfl
theorem b1G (hf : AOk hi f n) (hn : n ≤ 3) (h0 : 0 ≤ hi) (hh : hi ≤ 30) : AOk hi (fnL 6 (j6 f)) (n + 1) := by
 intro S lo h1 h1b h2
 obtain ⟨G, hG⟩ : ∃ G : Nat → List (List Int), G = fun (k : Nat) => (uL hi n (lo + (k : Int))).map ((lo + (k : Int)) :: ·) := ⟨_, rfl⟩
 have hGl : ∀ k, (G k).length ≤ 216 := fun k => by
  rw [hG]
  show ((uL hi n (lo + (k : Int))).map _).length ≤ _
  rw [List.length_map]
  exact Nat.le_trans (b2R n (by omega)) (Nat.pow_le_pow_right (by decide) hn)
 obtain ⟨ρ', S', e, x4, x5, rfl, rfl⟩ := v5 (b := f9 4) (body := B8 f)
  (fun i ρ S' => ∃ x4 x5, ρ = [some (.val (.int lo)), some (.val (.int hi)), some (.val (.int ((n + 1 : Nat) : Int))), some (.own (((List.range i).flatMap G).map usD)), x4, x5] ∧ S = S')
  (j8 lo (hi + 1 - lo).toNat) 0 [some (.val (.int lo)), some (.val (.int hi)), some (.val (.int ((n + 1 : Nat) : Int))), some (.own []), none, none] S ⟨none, none, rfl, rfl⟩ (by
   rintro i d ρ S' hd ⟨x4, x5, rfl, rfl⟩
   obtain ⟨hi', rfl⟩ := a0r hd
   rw [Nat.zero_add] at *
   have ef := hf S (lo + (i : Int)) (by omega) (by omega) (by omega)
   have hk : (uL hi n (lo + (i : Int))).length ≤ 216 := by
    have := hGl i
    rw [hG] at this
    simpa using this
   have hus : ∀ us ∈ uL hi n (lo + (i : Int)), us.length = n := fun us h => (mem_uL.mp h).1
   have lc : lcM (f9 5) a0w (d9 B2 (n9 (d3 (m7 4) m6)) (b7 5)) [some (.val (.int lo)), some (.val (.int hi)), some (.val (.int ((n + 1 : Nat) : Int))), some (.own (((List.range i).flatMap G).map usD)), some (.val (.int (lo + (i : Int)))), none] ((uL hi n (lo + (i : Int))).map usD) S = .ok ((G i).map usD) S := by
    rw [hG]
    show _ = R.ok (((uL hi n (lo + (i : Int))).map _).map usD) S
    rw [List.map_map]
    refine a1f usD _ _ fun us h => ?_
    have ad : B2 (.list [.int (lo + (i : Int))]) (usD us) = some (.own (((lo + (i : Int)) :: us).map PyData.int)) := by
     unfold usD
     rw [Y4 (p6 (by have := hus us h; simp; omega))]
     rfl
    refine ⟨_, .own (((lo + (i : Int)) :: us).map PyData.int), rfl, ?_, rfl⟩
    generalize ((List.range i).flatMap G).map usD = A at *
    generalize usD us = U at *
    generalize ((lo + (i : Int)) :: us).map PyData.int = V at *
    simp [ad]
   have acc : ((List.range i).flatMap G).length ≤ 6 * 216 := by
    refine Nat.le_trans (a1I _ fun k _ => hGl k) ?_
    rw [List.length_range]
    exact Nat.mul_le_mul_right _ (by omega)
   have ex : u8 (((List.range i).flatMap G).map usD) [.list ((G i).map usD)] = some (((List.range (i + 1)).flatMap G).map usD, .none) := by
    rw [b27 (by rw [List.length_map, List.length_map]; have := hGl i; omega)]
    rw [List.range_succ, List.flatMap_append, List.map_append]
    simp
   refine ⟨_, rfl, _, _, .inl ?_, some (.val (.int (lo + (i : Int)))), x5, rfl, rfl⟩
   unfold B8
   generalize ((List.range (i + 1)).flatMap G).map usD = A2 at *
   generalize ((List.range i).flatMap G).map usD = A at *
   generalize (G i).map usD = B at *
   generalize (uL hi n (lo + (i : Int))).map usD = UL at *
   have n1 : ((n + 1 : Nat) : Int) - 1 = (n : Int) := by omega
   generalize ((n + 1 : Nat) : Int) = N1 at *
   simp [n1, ef, lc, ex, q8])
 rw [Nat.zero_add, y0] at e
 have gr : a0l [.int lo, .int (hi + 1)] = some (j8 lo (hi + 1 - lo).toNat) := by
  show (if _ ∧ _ ∧ _ then some _ else none) = _
  rw [if_pos ⟨p6 (by omega), J5 (by omega) (by omega), J5 (by omega) (by omega)⟩]
 have eG : uL hi (n + 1) lo = (List.range (hi + 1 - lo).toNat).flatMap G := by rw [hG]; rfl
 refine F7 ?_
 unfold j6
 rw [eG]
 generalize ((List.range (hi + 1 - lo).toNat).flatMap G).map usD = A at *
 have n1 : ¬ ((n + 1 : Nat) : Int) = 0 := by omega
 generalize ((n + 1 : Nat) : Int) = N1 at *
 refine b9 (ρ1 := [some (.val (.int lo)), some (.val (.int hi)), some (.val (.int N1)), none, none, none]) (S1 := S) (a2z (S1 := S) (by simp [n1]) (by simp)) ?_
 refine b9 (ρ1 := [some (.val (.int lo)), some (.val (.int hi)), some (.val (.int N1)), some (.own []), none, none]) (S1 := S) (by simp) ?_
 refine b9 (ρ1 := [some (.val (.int lo)), some (.val (.int hi)), some (.val (.int N1)), some (.own A), x4, x5]) (S1 := S) (by rw [← e]; simp [gr]) ?_
 simp
theorem b7v (h0 : 0 ≤ hi) (hh : hi ≤ 30) {lo : Int} (h1 : 1 ≤ lo) (h1b : lo ≤ 100) (h2 : hi + 1 - lo ≤ 6) {h : Nat} (hn : h = 2 ∨ h = 3) : t6 [.val (.int lo), .val (.int hi), .val (.int (h : Int))] S = .ok (.own ((uL hi h lo).map usD)) S := by
 have step4 : ∀ n, n ≤ 3 → ∀ k, n + 1 ≤ k → AOk hi (a9X 6 j6 k) n := by
  intro n
  induction n with
  | zero =>
   intro _ k hk S lo _ _ _
   obtain ⟨q, rfl⟩ : ∃ q, k = q + 1 := ⟨k - 1, by omega⟩
   rw [a61]
   exact b9B lo
  | succ n ih =>
   intro hn k hk
   obtain ⟨q, rfl⟩ : ∃ q, k = q + 1 := ⟨k - 1, by omega⟩
   rw [a61]
   exact b1G (ih (by omega) q (by omega)) (by omega) h0 hh
 exact step4 h (by omega) 5 (by omega) S lo h1 h1b h2
end
end BV
namespace BV
open PySem L2
end BV
namespace BV
open PySem L2
theorem a8E {xs : List Int} {m : Int} (h1 : m ∈ xs) (h2 : ∀ y ∈ xs, m ≤ y) : b1R [.list (xs.map PyData.int)] = some (.val (.int m)) := by
 show (F0 (xs.map PyData.int)).bind _ = _
 rw [a0K]
 show Option.map _ (b7a xs) = _
 cases xs with
 | nil => cases h1
 | cons x xs =>
  cases e : b7a (x :: xs) with
  | none => cases e
  | some q =>
   obtain ⟨q1, q2⟩ := a2I e
   have : q = m := Int.le_antisymm (q2 m h1) (h2 q q1)
   rw [this]
   rfl
theorem b20 : ∀ (xs : List Int), xs ≠ [] → ∃ m ∈ xs, ∀ y ∈ xs, m ≤ y
 | [], h => (h rfl).elim
 | [x], _ => ⟨x, by simp, fun y hy => by rw [List.mem_singleton.mp hy]; exact Int.le_refl _⟩
 | x :: z :: xs, _ => by
  obtain ⟨m, hm, h⟩ := b20 (z :: xs) (by simp)
  by_cases q : x ≤ m
  ·exact ⟨x, List.mem_cons_self .., fun y hy => by
    rcases List.mem_cons.mp hy with rfl | hy
    ·exact Int.le_refl _
    ·exact Int.le_trans q (h y hy)⟩
  ·exact ⟨m, List.mem_cons_of_mem _ hm, fun y hy => by
    rcases List.mem_cons.mp hy with rfl | hy
    ·omega
    ·exact h y hy⟩
theorem b2W : ∀ (xs : List Int), xs ≠ [] → ∃ m ∈ xs, ∀ y ∈ xs, y ≤ m
 | [], h => (h rfl).elim
 | [x], _ => ⟨x, by simp, fun y hy => by rw [List.mem_singleton.mp hy]; exact Int.le_refl _⟩
 | x :: z :: xs, _ => by
  obtain ⟨m, hm, h⟩ := b2W (z :: xs) (by simp)
  by_cases q : m ≤ x
  ·exact ⟨x, List.mem_cons_self .., fun y hy => by
    rcases List.mem_cons.mp hy with rfl | hy
    ·exact Int.le_refl _
    ·exact Int.le_trans (h y hy) q⟩
  ·exact ⟨m, List.mem_cons_of_mem _ hm, fun y hy => by
    rcases List.mem_cons.mp hy with rfl | hy
    ·omega
    ·exact h y hy⟩
structure b6A (w h : Nat) (ls : List (Str × Int)) (o : Option Int) : Prop where
 full : w * h ≤ ls.length → o = none
 way : ls.length < w * h → ∀ c, o = some c → ∃ us : List Int, us.length = h ∧ (∀ u ∈ us, 1 ≤ u ∧ u ≤ 30) ∧ Plc us (ls.map (·.2)) (List.replicate h w) c
 least : ls.length < w * h → ∀ units rows c, Laid w h ls c units rows → ∃ c0, o = some c0 ∧ c0 ≤ c
section
variable {S : Sto} {w h : Nat}
theorem a7R {ls : List (Str × Int)} {b : Int} (hw : w = 2 ∨ w = 3) (hh : h = 2 ∨ h = 3) (hl : ls.length ≤ 5) (hb : ∀ p ∈ ls, b ≤ p.2 ∧ p.2 ≤ b + 3 ∧ 1 ≤ p.2 ∧ p.2 ≤ 30) (hS : lfS S = true) :
  ∃ o, r9 [.val (c7 ((w : Int), (h : Int))), .val (.list ((ls.map (·.2)).map PyData.int))] S = .ok (.val (oiD o)) S ∧ b6A w h ls o := by
 have ln : a2g [.list ((ls.map (·.2)).map PyData.int)] = some (.val (.int (ls.length : Int))) := by rw [v7, List.length_map, List.length_map]
 have mw : C5 (.int (w : Int)) (.int (h : Int)) = some (.val (.int ((w * h : Nat) : Int))) := by
  rw [a06 (V8 (by omega) (by omega)) (V8 (by omega) (by omega)), Int.natCast_mul]
 have p0 : gIx (c7 ((w : Int), (h : Int))) (.int 0) = some (.val (.int (w : Int))) := rfl
 have p1 : gIx (c7 ((w : Int), (h : Int))) (.int 1) = some (.val (.int (h : Int))) := rfl
 by_cases hf : w * h ≤ ls.length
 ·refine ⟨none, ?_, fun _ => rfl, fun z => by omega, fun z => by omega⟩
  unfold r9
  refine F7 ?_
  unfold G3
  have hf' : ((w * h : Nat) : Int) ≤ (ls.length : Int) := by omega
  generalize c7 ((w : Int), (h : Int)) = SD at *
  generalize (ls.map (·.2)).map PyData.int = WD at *
  generalize ((w * h : Nat) : Int) = WH at *
  generalize (ls.length : Int) = LL at *
  rw [a8a, show sIf (cB (d9 gGe (cB1 a2g (i8 (b7 1) A9)) (d9 C5 (d9 gIx (b7 0) (cC (.int 0))) (d9 gIx (b7 0) (cC (.int 1)))))) (O3 (cC .none)) t4 (start0 5 [.val SD, .val (.list WD)]) S = .rt (.val .none) S from a7d (S1 := S) (by simp [ln, mw, p0, p1, hf', -v7]) (by simp)]
  rfl
 ·have hf' : ¬ ((w * h : Nat) : Int) ≤ (ls.length : Int) := by omega
  by_cases hz : ls = []
  ·subst hz
   refine ⟨some 0, ?_, fun z => (hf z).elim, fun _ c e => ?_, fun _ units rows c k => ⟨0, rfl, ?_⟩⟩
   ·unfold r9
    refine F7 ?_
    unfold G3
    have e0 : gEq false (.list ((([] : List (Str × Int)).map (·.2)).map PyData.int)) (.list []) = some (.val (.bool true)) := rfl
    generalize c7 ((w : Int), (h : Int)) = SD at *
    generalize (([] : List (Str × Int)).map (·.2)).map PyData.int = WD at *
    generalize ((w * h : Nat) : Int) = WH at *
    generalize (([] : List (Str × Int)).length : Int) = LL at *
    refine b9 (ρ1 := [some (.val SD), some (.val (.list WD)), none, none, none]) (S1 := S) (a2z (S1 := S) (by simp [ln, mw, p0, p1, hf', -v7]) (by simp)) ?_
    rw [a8a, show sIf (cB (d9 (gEq false) (b7 1) (n9 m6))) (O3 (cC (.int 0))) t4 [some (.val SD), some (.val (.list WD)), none, none, none] S = .rt (.val (.int 0)) S from a7d (S1 := S) (by simp [e0]) (by simp)]
    rfl
   ·cases e
    exact ⟨List.replicate h 1, List.length_replicate, fun u hu => by rw [(List.mem_replicate.mp hu).2]; omega, rfl⟩
   ·obtain ⟨u0, A, p1, p2, p3, p4⟩ := k.cells
    omega
  ·have hzw : ls.map (·.2) ≠ [] := fun z => hz (List.map_eq_nil_iff.mp z)
   obtain ⟨mn, mn1, mn2⟩ := b20 _ hzw
   obtain ⟨mx, mx1, mx2⟩ := b2W _ hzw
   have e2 := a8E mn1 mn2
   have e3 := b3N mx1 mx2
   obtain ⟨pn, pn1, pn2⟩ := List.mem_map.mp mn1
   obtain ⟨px, px1, px2⟩ := List.mem_map.mp mx1
   have bn := hb pn pn1
   have bx := hb px px1
   have hmx : mn ≤ mx := mn2 mx mx1
   obtain ⟨lo, hlo⟩ : ∃ lo : Int, lo = if mn - 1 > 1 then mn - 1 else 1 := ⟨_, rfl⟩
   obtain ⟨hi, hhi⟩ : ∃ hi : Int, hi = if mx + 1 < 30 then mx + 1 else 30 := ⟨_, rfl⟩
   have lo1 : 1 ≤ lo ∧ lo ≤ 30 ∧ lo ≤ mn ∧ mn - 1 ≤ lo := by split at hlo <;> omega
   have hi1 : mx ≤ hi ∧ hi ≤ 30 ∧ hi ≤ mx + 1 := by split at hhi <;> omega
   have e4 := b7v (S := S) (hi := hi) (lo := lo) (h := h) (by omega) (by omega) (by omega) (by omega) (by omega) hh
   have e5 : C5 (.list [.int (w : Int)]) (.int (h : Int)) = some (.own ((List.replicate h w).map fun (r : Nat) => PyData.int (r : Int))) := by
    rcases hh with q | q <;> subst q <;> rfl
   obtain ⟨ρ', S', e6, o, x3, x4, rfl, rfl, ho⟩ := v5 (b := f9 3) (body := O7)
    (fun i ρ S' => ∃ o x3 x4, ρ = [some (.val (c7 ((w : Int), (h : Int)))), some (.val (.list ((ls.map (·.2)).map PyData.int))), some (.val (oiD o)), x3, x4] ∧ S = S' ∧ IsMinP (fun c => ∃ us ∈ (uL hi h lo).take i, Plc us (ls.map (·.2)) (List.replicate h w) c) o)
    ((uL hi h lo).map usD) 0 [some (.val (c7 ((w : Int), (h : Int)))), some (.val (.list ((ls.map (·.2)).map PyData.int))), some (.val .none), none, none] S
    ⟨none, none, none, rfl, rfl, fun c => by rintro ⟨us, h, _⟩; exact nomatch h⟩ (by
     rintro i d ρ S' hd ⟨o, x3, x4, rfl, rfl, ho⟩
     rw [Nat.zero_add] at *
     rw [List.getElem?_map] at hd
     cases q : (uL hi h lo)[i]? with
     | none => rw [q] at hd; cases hd
     | some us =>
      rw [q] at hd
      have hd : usD us = d := Option.some.inj hd
      subst hd
      obtain ⟨ul, us1, us2⟩ := mem_uL.mp (List.mem_of_getElem? q)
      obtain ⟨p, ep, hp⟩ := a73 (S := S) (us := us) (ws := ls.map (·.2)) (room := List.replicate h w) (by omega) (by rw [List.length_map]; omega) (by rw [ul, List.length_replicate]) hS
      have tk : (uL hi h lo).take (i + 1) = (uL hi h lo).take i ++ [us] := by
       rw [List.take_add_one, q]; rfl
      have hfin : IsMinP (fun c => ∃ us ∈ (uL hi h lo).take (i + 1), Plc us (ls.map (·.2)) (List.replicate h w) c) (b1d o p) := (ho.or hp).congr fun c => by
       rw [tk]
       constructor
       ·rintro (⟨v, v1, v2⟩ | v)
        ·exact ⟨v, List.mem_append.mpr (.inl v1), v2⟩
        ·exact ⟨us, List.mem_append.mpr (.inr (List.mem_singleton.mpr rfl)), v⟩
       ·rintro ⟨v, v1, v2⟩
        rcases List.mem_append.mp v1 with v1 | v1
        ·exact .inl ⟨v, v1, v2⟩
        ·rw [List.mem_singleton.mp v1] at v2
         exact .inr v2
      refine ⟨_, rfl, [some (.val (c7 ((w : Int), (h : Int)))), some (.val (.list ((ls.map (·.2)).map PyData.int))), some (.val (oiD (b1d o p))), some (.val (usD us)), some (.val (oiD p))], S, .inl ?_, _, _, _, rfl, rfl, hfin⟩
      unfold O7
      unfold G8 at ep
      have ep' : w8 [.val (.list ((ls.map (·.2)).map PyData.int)), .val (usD us), .val (.list ((List.replicate h w).map fun (r : Nat) => PyData.int (r : Int)))] S = .ok (.val (oiD p)) S := ep
      clear ep
      generalize c7 ((w : Int), (h : Int)) = SD at *
      generalize (ls.map (·.2)).map PyData.int = WD at *
      generalize (List.replicate h w).map (fun (r : Nat) => PyData.int (r : Int)) = RD at *
      generalize usD us = UD at *
      refine b9 (ρ1 := [some (.val SD), some (.val (.list WD)), some (.val (oiD o)), some (.val UD), some (.val (oiD p))]) (S1 := S) (by simp [p0, p1, e5, ep']) ?_
      cases p with
      | none => cases o <;> exact a2z (S1 := S) (by simp [oiD]) (by simp [oiD, b1d])
      | some b =>
       cases o with
       | none => exact a7d (S1 := S) (by simp [oiD]) (by simp [oiD, b1d])
       | some a =>
        by_cases h : b < a
        ·exact a7d (S1 := S) (by simp [oiD, h]) (by simp [oiD, b1d, h])
        ·have h' : a ≤ b := by omega
         exact a2z (S1 := S) (by simp [oiD, h, h']) (by simp [b1d, h, h', oiD]))
   rw [Nat.zero_add, List.length_map, List.take_length] at ho
   refine ⟨o, ?_, fun z => (hf z).elim, fun _ c e => ?_, fun _ units rows c k => ?_⟩
   ·unfold r9
    refine F7 ?_
    unfold G3
    have e0 : gEq false (.list ((ls.map (·.2)).map PyData.int)) (.list []) = some (.val (.bool false)) := by
     rw [show (PyData.list []) = .list (([] : List Int).map PyData.int) from rfl, b8S (R4 _) (R4 [])]
     cases q : ls.map (·.2) with
     | nil => exact (hzw q).elim
     | cons a as => rfl
    rw [hlo, hhi] at *
    generalize (uL _ h _).map usD = UL at *
    generalize c7 ((w : Int), (h : Int)) = SD at *
    generalize (ls.map (·.2)).map PyData.int = WD at *
    generalize ((w * h : Nat) : Int) = WH at *
    generalize (ls.length : Int) = LL at *
    refine b9 (ρ1 := [some (.val SD), some (.val (.list WD)), none, none, none]) (S1 := S) (a2z (S1 := S) (by simp [ln, mw, p0, p1, hf', -v7]) (by simp)) ?_
    refine b9 (ρ1 := [some (.val SD), some (.val (.list WD)), none, none, none]) (S1 := S) (a2z (S1 := S) (by simp [e0]) (by simp)) ?_
    refine b9 (ρ1 := [some (.val SD), some (.val (.list WD)), some (.val .none), none, none]) (S1 := S) (by simp) ?_
    refine b9 (ρ1 := [some (.val SD), some (.val (.list WD)), some (.val (oiD o)), x3, x4]) (S1 := S) (by rw [← e6]; simp [p0, p1, e2, e3, e4]) ?_
    simp
   ·rw [e] at ho
    obtain ⟨us, hu, hp⟩ := ho.1
    obtain ⟨h1, h2, h3⟩ := mem_uL.mp hu
    exact ⟨us, h1, fun u hu => by have := h3 u hu; omega, hp⟩
   ·obtain ⟨us, l1, l2, l3, l4⟩ := b3U k (lo := lo) (hi := hi) (by omega) (by omega) (by omega) (fun p hp => by
     have := mx2 p.2 (List.mem_map.mpr ⟨p, hp, rfl⟩)
     have := mn2 p.2 (List.mem_map.mpr ⟨p, hp, rfl⟩)
     split at hlo <;> omega) (fun p hp => by
     have := mx2 p.2 (List.mem_map.mpr ⟨p, hp, rfl⟩)
     have := mn2 p.2 (List.mem_map.mpr ⟨p, hp, rfl⟩)
     split at hhi <;> omega)
    cases o with
    | none => exact (ho c ⟨us, mem_uL.mpr ⟨l1, l2, l3⟩, l4⟩).elim
    | some c0 => exact ⟨c0, rfl, ho.2 c ⟨us, mem_uL.mpr ⟨l1, l2, l3⟩, l4⟩⟩
end
end BV
namespace BV
open PySem L2
theorem a0p (u : Int) : ∀ r : List d7, (M1 u r).countP nzB = a93 r
 | [] => rfl
 | none :: r => by
  have e : M1 u (none :: r) = M1 u r := rfl
  rw [e, a0p u r]
  rfl
 | some p :: r => by
  have e : M1 u (some p :: r) = (u, p.1, p.2) :: M1 u r := rfl
  have ih := a0p u r
  rw [e, List.countP_cons, ih]
  unfold a93 nzB turned
  rw [List.filter_cons]
  by_cases q : p.2 = 0 <;> simp [q]
theorem a0u : ∀ {us : List Int} {rs : List (List d7)}, us.length = rs.length → (p7 us rs).countP nzB = camsN rs
 | [], [], _ => rfl
 | [], _ :: _, h => by simp at h
 | _ :: _, [], h => by simp at h
 | u :: us, r :: rs, h => by
  have ih := a0u (us := us) (rs := rs) (by simpa using h)
  rw [n8, List.countP_append, ih, a0p]
  rfl
theorem Laid.camsN {w h : Nat} {ls : List (Str × Int)} {c : Int} {units : List Int} {rows : List (List d7)} (k : Laid w h ls c units rows) : (camsN rows : Int) = c := by
 obtain ⟨u0, A, p1, p2, p3, p4⟩ := k.cells
 rw [← a0u (us := units) (by rw [k.hu, k.hr]), p1.countP_eq, List.countP_cons_of_neg (by simp [nzB])]
 exact p4
section
variable {S : Sto} {w h : Nat}
theorem b31 {sd ld : D} (e : m9 [.val sd, .val ld] S = .exc ⟨"NoLayout", none⟩ S) : k6 [.val sd, .val ld] S = .ok (.val .none) S := by
 unfold k6
 refine F7 ?_
 unfold I0
 refine b9 (ρ1 := [some (.val sd), some (.val ld), some (.val .none)]) (S1 := S) (by simp) ?_
 refine b9 (ρ1 := [some (.val sd), some (.val ld), some (.val .none)]) (S1 := S) (by simp [e]) ?_
 simp
theorem b2p {sd ld d : D} (e : m9 [.val sd, .val ld] S = .ok (.val d) S) : k6 [.val sd, .val ld] S = .ok (.val d) S := by
 unfold k6
 refine F7 ?_
 unfold I0
 refine b9 (ρ1 := [some (.val sd), some (.val ld), some (.val .none)]) (S1 := S) (by simp) ?_
 refine b9 (ρ1 := [some (.val sd), some (.val ld), some (.val d)]) (S1 := S) (by simp [e]) ?_
 simp
theorem b63 {ls : List (Str × Int)} {o : Option Int} (hw : w = 2 ∨ w = 3) (hh : h = 2 ∨ h = 3) (hl : ls.length ≤ 5) (hb : ∀ p ∈ ls, 1 ≤ p.2 ∧ p.2 ≤ 30) (hS : lfS S = true) (k : b6A w h ls o) :
  (o = none ∧ k6 [.val (c7 ((w : Int), (h : Int))), .val (.list (ls.map ltD))] S = .ok (.val .none) S) ∨
  (∃ c us rs, o = some c ∧ k6 [.val (c7 ((w : Int), (h : Int))), .val (.list (ls.map ltD))] S = .ok (.val (N7 us rs)) S ∧ v6 [.val (N7 us rs)] S = .ok (.val (.int c)) S) := by
 rcases b19 (S := S) (w := w) (h := h) (by omega) (by omega) (by omega) (by omega) hb hS with ⟨e, q⟩ | ⟨lt, c, wy, b, y, e⟩
 ·refine .inl ⟨?_, b31 e⟩
  rcases q with q | q
  ·exact k.full q
  ·by_cases f : w * h ≤ ls.length
   ·exact k.full f
   ·cases o with
    | none => rfl
    | some c =>
     obtain ⟨us, h1, h2, h3⟩ := k.way (by omega) c rfl
     obtain ⟨st, c', ps, y, y1, _⟩ := b25 hb h1 h2 h3
     exact (q st c' ps y y1).elim
 ·have la := laid y hb lt
  obtain ⟨c0, rfl, l0⟩ := k.least lt _ _ _ la
  obtain ⟨us, h1, h2, h3⟩ := k.way lt c0 rfl
  obtain ⟨st, c', ps, y', y1, y2⟩ := b25 hb h1 h2 h3
  have := b.least st c' ps y' y1
  have hc : c0 = c := by omega
  subst hc
  refine .inr ⟨c0, a7O h wy, b3o w h ls wy, rfl, b2p e, ?_⟩
  have := b0d (S := S) (units := a7O h wy) (rows := b3o w h ls wy)
  rw [la.camsN] at this
  exact this
theorem b1V {j : Nat} (h : j < 5) : ∃ x : Str, gIx (.str "abcde") (.int (j : Int)) = some (.val (.str x)) := by
 have hl : ("abcde" : Str).cps.toList.length = 5 := by decide +kernel
 obtain ⟨v, e1, e2⟩ := a9K (xs := ("abcde" : Str).cps.toList) (i := (j : Int)) (by omega) (by rw [hl]; omega)
 exact ⟨⟨#[v]⟩, by rw [b3k, e1]; rfl⟩
theorem b6a {ns : List Int} {i : Nat} {y2 y3 y4 y5 y6 y7 y8 y9 y10 : Option T} (hi : i < 1000) (hl : ns.length ≤ 63) (hS : lfS S = true) :
  ∃ (z2 z3 z4 z5 z6 z7 z8 z9 z10 : Option T) (S' : Sto), a2p [some (.scr ns), some (.val (.int (i : Int))), y2, y3, y4, y5, y6, y7, y8, y9, y10, none, none, none] S = .nx [some (.scr ns), some (.val (.int (i : Int))), z2, z3, z4, z5, z6, z7, z8, z9, z10, none, none, none] S' ∧ lfS S' = true := by
 obtain ⟨a, b, e1, hb⟩ := b2A (ns := ns) (k := (i : Int)) (S := S) (by omega) (by omega) hl
 obtain ⟨p, S1, e2, p0, p1, hb1, x1⟩ := b5V (k := 2) (b4v (S := S) hb) (by decide) (by decide) (by decide)
 obtain ⟨q, S2, e3, q0, q1, hb2, x2⟩ := b5V (k := 2) hb1 (by decide) (by decide) (by decide)
 obtain ⟨w, hw⟩ : ∃ w : Nat, 2 + p = (w : Int) := ⟨(2 + p).toNat, by omega⟩
 obtain ⟨h, hh⟩ : ∃ h : Nat, 2 + q = (h : Int) := ⟨(2 + q).toNat, by omega⟩
 obtain ⟨m, S3, e4, m0, m1, hb3, x3⟩ := b5V (k := 6) hb2 (by decide) (by decide) (by decide)
 obtain ⟨M, rfl⟩ : ∃ M : Nat, m = (M : Int) := ⟨m.toNat, by omega⟩
 obtain ⟨s, S4, e5, s0, s1, hb4, x4⟩ := b5V (k := 4) hb3 (by decide) (by decide) (by decide)
 obtain ⟨t, S5, e6, t0, t1, hb5, x5⟩ := b5V (k := 31 - (1 + s)) hb4 (by decide) (by omega) (by omega)
 obtain ⟨xs, S6, e7, ls, hxs, hll, hls, hb6, x6⟩ := a5y (b := f9 11) (tt := a0w) (elt := Y1 (d3 (d9 gIx (cC (.str "abcde")) (b7 11)) (d3 (d9 B2 (b7 6) (t9 j7 (d3 (m7 2) (d3 (m7 5) m6)))) m6)))
  (ρ := [some (.scr ns), some (.val (.int (i : Int))), some (.cel S.length), some (.val (c7 ((w : Int), (h : Int)))), some (.val (.int (M : Int))), some (.val (.int (1 + s))), some (.val (.int (1 + t))), y7, y8, y9, y10, none, none, none])
  (fun j ys S' => ∃ ls : List (Str × Int), ys = ls.map ltD ∧ ls.length = j ∧ (∀ p ∈ ls, 1 + t ≤ p.2 ∧ p.2 ≤ 1 + t + s) ∧ HasBag S' S.length (6 + j) ∧ Ext S.length S5 S') (j8 0 M) 0 [] S5 ⟨[], rfl, rfl, (fun _ h => nomatch h), hb5, Ext.refl⟩ (by
   rintro j d ys S' hd ⟨ls, rfl, hll, hls, hb', x'⟩
   rw [Nat.zero_add] at *
   obtain ⟨hj, rfl⟩ := G0 hd
   obtain ⟨x, hx⟩ := b1V (j := j) (by omega)
   obtain ⟨v, S7, e8, v0, v1, hb7, x7⟩ := b5V (k := 1 + s) hb' (by omega) (by omega) (by omega)
   refine ⟨_, rfl, .inr ⟨S', .val (ltD (x, 1 + t + v)), S7, ltD (x, 1 + t + v), rfl, ?_, rfl, ls ++ [(x, 1 + t + v)], by rw [List.map_append]; rfl, by rw [List.length_append, hll]; rfl, fun p hp => ?_, hb7.mono (by omega), x'.trans x7⟩⟩
   ·generalize c7 ((w : Int), (h : Int)) = SD at *
    simp [hx, e8, ltD, -b3k]
   ·rcases List.mem_append.mp hp with h | h
    ·exact hls p h
    ·rw [List.mem_singleton.mp h]
     show 1 + t ≤ 1 + t + v ∧ 1 + t + v ≤ 1 + t + s
     omega)
 rw [List.nil_append] at hxs
 rw [Nat.zero_add, y0] at hll hb6
 subst hxs
 have hS6 : lfS S6 = true := b3V (a9Y hS) (((((x1.trans x2).trans x3).trans x4).trans x5).trans x6) hb6
 have hb30 : ∀ p ∈ ls, 1 ≤ p.2 ∧ p.2 ≤ 30 := fun p hp => by have := hls p hp; omega
 obtain ⟨o, e9, dk⟩ := a7R (S := S6) (w := w) (h := h) (ls := ls) (b := 1 + t) (by omega) (by omega) (by omega) (fun p hp => by have := hls p hp; omega) hS6
 have hwh := b63 (S := S6) (w := w) (h := h) (ls := ls) (o := o) (by omega) (by omega) (by omega) hb30 hS6 dk
 have lc2 : lcM (a0S 2 (o8 (f9 12) (o8 (f9 13) a1K))) a0w (m7 13) [some (.scr ns), some (.val (.int (i : Int))), some (.cel S.length), some (.val (c7 ((w : Int), (h : Int)))), some (.val (.int (M : Int))), some (.val (.int (1 + s))), some (.val (.int (1 + t))), some (.own (ls.map ltD)), y8, y9, y10, none, none, none] (ls.map ltD) S6 = .ok ((ls.map (·.2)).map PyData.int) S6 := by
  rw [List.map_map]
  exact a1f ltD _ ls fun p _ => ⟨_, .val (.int p.2), rfl, rfl, rfl⟩
 have gr := a0o (n := M) (p6 (by omega))
 have pe : (PyData.tuple [.int (w : Int), .int (h : Int)]) = c7 ((w : Int), (h : Int)) := rfl
 clear dk hb1 hb2 hb3 hb4 hb5 hb6 x1 x2 x3 x4 x5 x6 hls hb30
 have body : ∀ {ρ9 : En} {R : Fl}, (j9 (s8 9 (t9 k6 (d3 (m7 3) (d3 (m7 7) m6))))
  (j9 (sIf (b1e (cB (cUn b2B (b7 8))) (cB (cUn V0 (b7 9)))) (O3 (cC (.bool false))) t4)
  (sIf (cB (cUn V0 (b7 8))) (j9 (sIf (cB (cUn b2B (b7 9))) (O3 (cC (.bool false))) t4)
  (j9 (s8 10 (t9 v6 (d3 (m7 9) m6)))
  (sIf (bOr (b6l (cT (cUn (H7 "int") (b7 10)))) (bOr (cT (cUn (H7 "bool") (b7 10))) (cB (d9 (gEq true) (b7 10) (b7 8))))) (O3 (cC (.bool false))) t4))) t4))) [some (.scr ns), some (.val (.int (i : Int))), some (.cel S.length), some (.val (c7 ((w : Int), (h : Int)))), some (.val (.int (M : Int))), some (.val (.int (1 + s))), some (.val (.int (1 + t))), some (.val (.list (ls.map ltD))), some (.val (oiD o)), y9, y10, none, none, none] S6 = R →
   a2p [some (.scr ns), some (.val (.int (i : Int))), y2, y3, y4, y5, y6, y7, y8, y9, y10, none, none, none] S = R := fun {ρ9 R} hr => by
  unfold a2p
  generalize ls.map ltD = LS at *
  generalize (ls.map (·.2)).map PyData.int = WD at *
  refine b9 (ρ1 := [some (.scr ns), some (.val (.int (i : Int))), some (.cel S.length), y3, y4, y5, y6, y7, y8, y9, y10, none, none, none]) (S1 := S ++ [.lst [.int a, .int b]]) (by simp [e1]) ?_
  refine b9 (ρ1 := [some (.scr ns), some (.val (.int (i : Int))), some (.cel S.length), some (.val (c7 ((w : Int), (h : Int)))), y4, y5, y6, y7, y8, y9, y10, none, none, none]) (S1 := S2) (by simp [e2, e3, hw, hh, pe]) ?_
  generalize c7 ((w : Int), (h : Int)) = SD at *
  refine b9 (ρ1 := [some (.scr ns), some (.val (.int (i : Int))), some (.cel S.length), some (.val SD), some (.val (.int (M : Int))), y5, y6, y7, y8, y9, y10, none, none, none]) (S1 := S3) (by simp [e4]) ?_
  refine b9 (ρ1 := [some (.scr ns), some (.val (.int (i : Int))), some (.cel S.length), some (.val SD), some (.val (.int (M : Int))), some (.val (.int (1 + s))), y6, y7, y8, y9, y10, none, none, none]) (S1 := S4) (by simp [e5]) ?_
  refine b9 (ρ1 := [some (.scr ns), some (.val (.int (i : Int))), some (.cel S.length), some (.val SD), some (.val (.int (M : Int))), some (.val (.int (1 + s))), some (.val (.int (1 + t))), y7, y8, y9, y10, none, none, none]) (S1 := S5) (by simp [e6]) ?_
  refine b9 (ρ1 := [some (.scr ns), some (.val (.int (i : Int))), some (.cel S.length), some (.val SD), some (.val (.int (M : Int))), some (.val (.int (1 + s))), some (.val (.int (1 + t))), some (.own LS), y8, y9, y10, none, none, none]) (S1 := S6) (by simp [gr, q8, e7]) ?_
  refine b9 (ρ1 := [some (.scr ns), some (.val (.int (i : Int))), some (.cel S.length), some (.val SD), some (.val (.int (M : Int))), some (.val (.int (1 + s))), some (.val (.int (1 + t))), some (.own LS), some (.val (oiD o)), y9, y10, none, none, none]) (S1 := S6) (by simp [q8, lc2, e9]) ?_
  exact b2U (ρ' := [some (.scr ns), some (.val (.int (i : Int))), some (.cel S.length), some (.val SD), some (.val (.int (M : Int))), some (.val (.int (1 + s))), some (.val (.int (1 + t))), some (.val (.list LS)), some (.val (oiD o)), y9, y10, none, none, none]) rfl hr
 rcases hwh with ⟨rfl, sa⟩ | ⟨c, us, rs, rfl, sa, gc⟩
 ·refine ⟨some (.cel S.length), some (.val (c7 ((w : Int), (h : Int)))), some (.val (.int (M : Int))), some (.val (.int (1 + s))), some (.val (.int (1 + t))), some (.val (.list (ls.map ltD))), some (.val (oiD none)), some (.val .none), y10, S6, body (ρ9 := []) ?_, hS6⟩
  generalize ls.map ltD = LS at *
  generalize c7 ((w : Int), (h : Int)) = SD at *
  refine b9 (ρ1 := [some (.scr ns), some (.val (.int (i : Int))), some (.cel S.length), some (.val SD), some (.val (.int (M : Int))), some (.val (.int (1 + s))), some (.val (.int (1 + t))), some (.val (.list LS)), some (.val (oiD none)), some (.val .none), y10, none, none, none]) (S1 := S6) (by simp [sa]) ?_
  refine b9 (ρ1 := [some (.scr ns), some (.val (.int (i : Int))), some (.cel S.length), some (.val SD), some (.val (.int (M : Int))), some (.val (.int (1 + s))), some (.val (.int (1 + t))), some (.val (.list LS)), some (.val (oiD none)), some (.val .none), y10, none, none, none]) (S1 := S6) (a2z (S1 := S6) (by simp [oiD]) (by simp)) ?_
  exact a2z (S1 := S6) (by simp [oiD]) (by simp)
 ·refine ⟨some (.cel S.length), some (.val (c7 ((w : Int), (h : Int)))), some (.val (.int (M : Int))), some (.val (.int (1 + s))), some (.val (.int (1 + t))), some (.val (.list (ls.map ltD))), some (.val (oiD (some c))), some (.val (N7 us rs)), some (.val (.int c)), S6, body (ρ9 := []) ?_, hS6⟩
  have nn : V0 (N7 us rs) = some (.val (.bool true)) := rfl
  have ni : isNone (N7 us rs) = false := rfl
  generalize ls.map ltD = LS at *
  generalize c7 ((w : Int), (h : Int)) = SD at *
  generalize N7 us rs = CD at *
  refine b9 (ρ1 := [some (.scr ns), some (.val (.int (i : Int))), some (.cel S.length), some (.val SD), some (.val (.int (M : Int))), some (.val (.int (1 + s))), some (.val (.int (1 + t))), some (.val (.list LS)), some (.val (oiD (some c))), some (.val CD), y10, none, none, none]) (S1 := S6) (by simp [sa]) ?_
  refine b9 (ρ1 := [some (.scr ns), some (.val (.int (i : Int))), some (.cel S.length), some (.val SD), some (.val (.int (M : Int))), some (.val (.int (1 + s))), some (.val (.int (1 + t))), some (.val (.list LS)), some (.val (oiD (some c))), some (.val CD), y10, none, none, none]) (S1 := S6) (a2z (S1 := S6) (by simp [oiD]) (by simp)) ?_
  refine a7d (S1 := S6) (by simp [oiD]) ?_
  refine b9 (ρ1 := [some (.scr ns), some (.val (.int (i : Int))), some (.cel S.length), some (.val SD), some (.val (.int (M : Int))), some (.val (.int (1 + s))), some (.val (.int (1 + t))), some (.val (.list LS)), some (.val (oiD (some c))), some (.val CD), y10, none, none, none]) (S1 := S6) (a2z (S1 := S6) (by simp [ni]) (by simp)) ?_
  refine b9 (ρ1 := [some (.scr ns), some (.val (.int (i : Int))), some (.cel S.length), some (.val SD), some (.val (.int (M : Int))), some (.val (.int (1 + s))), some (.val (.int (1 + t))), some (.val (.list LS)), some (.val (oiD (some c))), some (.val CD), some (.val (.int c)), none, none, none]) (S1 := S6) (by simp [gc]) ?_
  exact a2z (S1 := S6) (by simp [oiD]) (by simp)
end
theorem law_true (ns : List Int) (hl : ns.length ≤ 63) : ∃ S, a4x [.scr ns] [] = .ok (.val (.bool true)) S := by
 obtain ⟨ρ', S', e, x1, x2, x3, x4, x5, x6, x7, x8, x9, x10, rfl, hS'⟩ := v5 (b := f9 1) (body := a2p) (fun i ρ S' => ∃ x1 x2 x3 x4 x5 x6 x7 x8 x9 x10 : Option T, ρ = [some (.scr ns), x1, x2, x3, x4, x5, x6, x7, x8, x9, x10, none, none, none] ∧ lfS S' = true) (j8 0 3) 0 [some (.scr ns), none, none, none, none, none, none, none, none, none, none, none, none, none] [] ⟨none, none, none, none, none, none, none, none, none, none, rfl, rfl⟩ (by
   rintro i d ρ S hd ⟨x1, x2, x3, x4, x5, x6, x7, x8, x9, x10, rfl, hS⟩
   obtain ⟨hi, rfl⟩ := G0 hd
   obtain ⟨z2, z3, z4, z5, z6, z7, z8, z9, z10, S2, e1, hS2⟩ := b6a (S := S) (ns := ns) (i := i) (y2 := x2) (y3 := x3) (y4 := x4) (y5 := x5) (y6 := x6) (y7 := x7) (y8 := x8) (y9 := x9) (y10 := x10) (by omega) hl hS
   exact ⟨_, rfl, _, S2, .inl e1, _, _, _, _, _, _, _, _, _, _, rfl, hS2⟩)
 have r4 := a0o (n := 3) (p6 (by omega))
 refine ⟨S', ?_⟩
 unfold a4x
 refine F7 ?_
 unfold b2m
 refine b9 (by simp [r4]; exact e) ?_
 simp
end BV
namespace BV
open PySem PySem.Spec PyProof.Rows L2
def a4V : List Str := ["letters", "found", "name", "width"]
def b1Z : List Str := ["wide", "counts", "units", "spare", "many", "lent", "waiting", "room", "own"]
def a5f : List Str := ["wide", "counts", "units", "spare", "wanted"]
def b1t : List Str := ["size", "counts", "wide", "high", "steps", "units", "found", "state", "rows", "spare", "many", "lent", "told", "behind", "cams"]
def a8R : List Str := ["size", "counts", "steps", "ends", "state", "found", "units", "cams", "ahead", "many", "lent"]
def a1R : List Str := ["wide", "letters", "way", "found", "waiting", "units", "many", "lent", "names", "own", "name", "width"]
def Y5 : List Str := ["wide", "cells", "many", "found", "k", "row"]
def a2j : List Str := ["rows", "found", "there", "row", "cells"]
def b1c : List Str := ["size", "letters", "wide", "high", "way", "contents", "units", "rows", "number", "many", "rest", "row"]
def b0k : List Str := ["case", "many", "row", "cell"]
def a7P : List Str := ["_law_script", "_law_k"]
def b0F : List Str := ["_law_script", "_law_at", "_law_cell_here", "_law_mix", "_law_k"]
def a8b : List Str := ["_law_bag_here", "_law_many", "_law_digit"]
def Z7 : List Str := ["_law_widths", "_law_units", "_law_room", "_law_best", "_law_row", "_law_cam", "_law_less", "_law_more"]
def K9 : List Str := ["_law_low", "_law_high", "_law_many", "_law_found", "_law_units", "_law_rest"]
def a7Z : List Str := ["_law_size", "_law_widths", "_law_best", "_law_units", "_law_told"]
def a4X : List Str := ["_law_size", "_law_letters", "_law_found"]
def b6K : List Str := ["_law_script", "_law_k", "_law_bag_here", "_law_size", "_law_many", "_law_among", "_law_least_here", "_law_letters", "_law_due_here", "_law_found", "_law_told", "_law_j", "_law_name", "_law_width"]
def a3y : Scope := scL ["letters", "found", "name", "width"] ["MOST_UNITS"]
def a9P : Scope := scL ["wide", "counts", "units", "spare", "many", "lent", "waiting", "room", "own"] ["max", "min"]
def a2v : Scope := scL ["wide", "counts", "units", "spare", "wanted"] ["max"]
def b04 : Scope := scL ["size", "counts", "wide", "high", "steps", "units", "found", "state", "rows", "spare", "many", "lent", "told", "behind", "cams"] ["range", "MOST_UNITS", "sorted", "min", "most_rows", "max", "onward"]
def a4t : Scope := { kind := .function, names := [("size", .local), ("counts", .local), ("steps", .cell), ("state", .local), ("ends", .local), ("found", .local), ("units", .local), ("cams", .local), ("ahead", .local), ("many", .local), ("lent", .local), ("stairs", .globalImplicit), ("NoLayout", .globalImplicit), ("min", .globalImplicit), ("range", .globalImplicit), ("MOST_UNITS", .globalImplicit)], isGenerator := false, isCoroutine := false, more := [("fast", .str "size"), ("fast", .str "counts"), ("fast", .str "steps"), ("fast", .str "state"), ("fast", .str "ends"), ("fast", .str "found"), ("fast", .str "units"), ("fast", .str "cams"), ("fast", .str "ahead"), ("fast", .str "many"), ("fast", .str "lent")] }
def a0D : Scope := { kind := .function, names := [("wide", .local), ("letters", .local), ("way", .local), ("many", .local), ("lent", .local), ("found", .local), ("waiting", .local), ("units", .cell), ("names", .local), ("own", .local), ("range", .globalImplicit), ("MOST_UNITS", .globalImplicit), ("len", .globalImplicit)], isGenerator := false, isCoroutine := false, more := [("fast", .str "wide"), ("fast", .str "letters"), ("fast", .str "way"), ("fast", .str "many"), ("fast", .str "lent"), ("fast", .str "found"), ("fast", .str "waiting"), ("fast", .str "units"), ("fast", .str "name"), ("fast", .str "width"), ("fast", .str "names"), ("fast", .str "own")] }
def W4 : Scope := scL ["wide", "cells", "many", "found", "k", "row"] ["range", "len"]
def a1b : Scope := scL ["rows", "found", "there", "row", "cells"] ["list", "tuple"]
def a8H : Scope := { kind := .function, names := [("size", .local), ("letters", .local), ("wide", .cell), ("high", .local), ("way", .local), ("contents", .local), ("units", .local), ("rows", .local), ("number", .local), ("many", .local), ("rest", .local), ("len", .globalImplicit), ("NoLayout", .globalImplicit), ("best_way", .globalImplicit), ("counts_of", .globalImplicit), ("contents_of", .globalImplicit), ("range", .globalImplicit), ("MOST_UNITS", .globalImplicit), ("rows_of_units", .globalImplicit), ("tuple", .globalImplicit), ("with_blank", .globalImplicit)], isGenerator := false, isCoroutine := false, more := [("fast", .str "size"), ("fast", .str "letters"), ("fast", .str "wide"), ("fast", .str "high"), ("fast", .str "way"), ("fast", .str "contents"), ("fast", .str "units"), ("fast", .str "rows"), ("fast", .str "number"), ("fast", .str "many"), ("fast", .str "rest"), ("fast", .str "row")] }
def a8K : Scope := { kind := .function, names := [("case", .local), ("many", .local), ("row", .local), ("len", .globalImplicit)], isGenerator := false, isCoroutine := false, more := [("fast", .str "case"), ("fast", .str "many"), ("fast", .str "row"), ("fast", .str "cell")] }
def a4n : Scope := scL ["_law_script", "_law_k"] ["len"]
def a8F : Scope := scL ["_law_script", "_law_at", "_law_cell_here", "_law_mix", "_law_k"] ["abs", "_law_cell", "range", "min", "len"]
def a5z : Scope := scL ["_law_bag_here", "_law_many", "_law_digit"] []
def V4 : Scope := scL ["_law_widths", "_law_units", "_law_room", "_law_best", "_law_row", "_law_cam", "_law_less", "_law_more"] ["range", "len", "abs", "_law_least"]
def I6 : Scope := { kind := .function, names := [("_law_low", .local), ("_law_high", .local), ("_law_many", .local), ("_law_found", .local), ("_law_units", .cell), ("range", .globalImplicit), ("_law_all_units", .globalImplicit)], isGenerator := false, isCoroutine := false, more := [("fast", .str "_law_low"), ("fast", .str "_law_high"), ("fast", .str "_law_many"), ("fast", .str "_law_found"), ("fast", .str "_law_units"), ("fast", .str "_law_rest")] }
def a4b : Scope := scL ["_law_size", "_law_widths", "_law_best", "_law_units", "_law_told"] ["len", "_law_all_units", "max", "min", "_law_least"]
def a2S : Scope := scL ["_law_size", "_law_letters", "_law_found"] ["lay_out", "NoLayout"]
def b2O : Scope := { kind := .function, names := [("_law_script", .local), ("_law_k", .local), ("_law_bag_here", .cell), ("_law_size", .local), ("_law_many", .local), ("_law_among", .cell), ("_law_least_here", .cell), ("_law_letters", .local), ("_law_due_here", .local), ("_law_found", .local), ("_law_told", .local), ("range", .globalImplicit), ("_law_bag", .globalImplicit), ("_law_take", .globalImplicit), ("_law_due", .globalImplicit), ("_law_said", .globalImplicit), ("cams_in", .globalImplicit), ("isinstance", .globalImplicit), ("int", .globalImplicit), ("bool", .globalImplicit)], isGenerator := false, isCoroutine := false, more := [("fast", .str "_law_script"), ("fast", .str "_law_k"), ("fast", .str "_law_bag_here"), ("fast", .str "_law_size"), ("fast", .str "_law_many"), ("fast", .str "_law_among"), ("fast", .str "_law_least_here"), ("fast", .str "_law_j"), ("fast", .str "_law_letters"), ("fast", .str "_law_name"), ("fast", .str "_law_width"), ("fast", .str "_law_due_here"), ("fast", .str "_law_found"), ("fast", .str "_law_told")] }
structure WF (mg : Str → Option Value) : Prop where
 co_MOST_UNITS : ∃ t, mg "MOST_UNITS" = some (.int 30 t)
 fr_abs : mg "abs" = none
 fr_bool : mg "bool" = none
 fr_int : mg "int" = none
 fr_isinstance : mg "isinstance" = none
 fr_len : mg "len" = none
 fr_list : mg "list" = none
 fr_max : mg "max" = none
 fr_min : mg "min" = none
 fr_range : mg "range" = none
 fr_sorted : mg "sorted" = none
 fr_tuple : mg "tuple" = none
section
variable {P : Program} {w : World} {K : PySem.W.Frag} {mg : Str → Option Value} {base : Heap}
theorem a2s {cn : Bool} (Wf : WF mg)  : SVs ⟨P, w, K, mg, base, a4V, a3y, fun _ => true, 0, true, none, cn, true, none⟩ (defBody N3) N2 :=
 b8 (i6 1 (A8 ((l6 (f6 c8 j3)).u) ((j5 ((R7 Wf.co_MOST_UNITS).u) (c8).u).u)))
  (b8 (C4 (b0S (f7 0)) (Q9 (k8 (i4 2) (k8 (i4 3) I4)))
  (d8 (b38 1 (b6 3) (c8).u)))
  (d8 (F8 1)))
theorem b0e {cn : Bool} (Wf : WF mg)  : SVs ⟨P, w, K, mg, base, b1Z, a9P, fun _ => true, 0, true, none, cn, true, none⟩ (defBody a1U) a1w :=
 b8 (i6 6 (E5 a1l Wf.fr_max (d5 (c8).u (d5 ((B4 (c8).u (b6 3)).u) i9))))
  (b8 (i6 7 (B4 ((A8 (b6 0) (b6 4)).u) (b6 6)))
  (b8 (i6 8 (B4 ((t8 (b6 1) (b6 2)).u) (b6 5)))
  (b8 (F5 (t7 a8U (b6 7) (c8).u) (d8 (w1 J8)) n5)
  (b8 (F5 (t7 b6k (b6 8) (b6 7)) (d8 (w1 (D4 (f6 (B4 (b6 7) (b6 8)) (f6 (j5 (b6 6) (b6 5)) j3))))) n5)
  (d8 (w1 (D4 (f6 (E5 X8 Wf.fr_min (d5 ((B4 (b6 7) (b6 8)).u) (d5 ((t8 (b6 1) ((j5 (b6 2) (c8).u).u)).u) i9))) (f6 (j5 (b6 6) (b6 5)) j3)))))))))
theorem a29 {cn : Bool} (Wf : WF mg)  : SVs ⟨P, w, K, mg, base, a5f, a2v, fun _ => true, 0, true, none, cn, true, none⟩ (defBody N9) O9 :=
 b8 (i6 4 (j5 ((j5 ((E5 a1l Wf.fr_max (d5 (c8).u (d5 ((B4 (c8).u (b6 3)).u) i9))).u) ((t8 (b6 1) (b6 2)).u)).u) ((t8 (b6 1) ((j5 (b6 2) (c8).u).u)).u)))
  (d8 (w1 (a9H ((B4 ((j5 (b6 4) (b6 0)).u) (c8).u).u) (b6 0))))
theorem b0c {cn : Bool} (Wf : WF mg) (O8 : ∀ cn, FnD P w K mg base cn 1 "most_rows" 4 w7) (a1p : ∀ cn, FnD P w K mg base cn 1 "onward" 6 G1) : SVs ⟨P, w, K, mg, base, b1t, b04, fun _ => true, 1, true, none, cn, true, none⟩ (defBody a17) a1G :=
 b8 (Y6 (Q9 (k8 (i4 2) (k8 (i4 3) I4))) (f7 0))
  (b8 (i6 4 (l6 (f6 (b0H (D4 (f6 c8 (f6 c8 j3))) (D4 (f6 c8 (f6 J8 (f6 c8 (f6 c8 j3)))))) j3)))
  (b8 (C4 (P6 (d5 (c8).u (d5 ((j5 ((R7 Wf.co_MOST_UNITS).u) (c8).u).u) i9)) Wf.fr_range) (i4 5)
  (b8 (i6 6 (b3S true))
  (b8 (C4 (b0S (E5 a79 Wf.fr_sorted (d5 ((t8 (b6 4) ((Z6 (c8).u).u)).u) i9))) (i4 7)
  (b8 (Y6 (Q9 (k8 (i4 8) (k8 (i4 9) I4))) (f7 7))
  (d8 (C4 (B6 (d5 ((j5 ((E5 X8 Wf.fr_min (d5 ((B4 (b6 3) (b6 8)).u) (d5 ((l7 (O8 _) (d2 (f7 2) (d2 (f7 1) (d2 (f7 5) (d2 (f7 9) k9))))).u) i9))).u) (c8).u).u) i9) Wf.fr_range) (i4 10)
  (d8 (C4 (B6 (d5 ((j5 ((E5 X8 Wf.fr_min (d5 ((t8 (b6 1) (b6 5)).u) (d5 ((E5 a1l Wf.fr_max (d5 (c8).u (d5 (b6 9) i9))).u) i9))).u) (c8).u).u) i9) Wf.fr_range) (i4 11)
  (b8 (i6 12 (l7 (a1p _) (d2 (f7 2) (d2 (f7 1) (d2 (f7 5) (d2 (f7 9) (d2 (f7 10) (d2 (f7 11) k9))))))))
  (d8 (F5 (T5 (b6 12)) (b8 (i6 13 (D4 (f6 (j5 (b6 8) (b6 10)) (f6 (t8 (b6 12) (c8).u) j3))))
  (b8 (i6 14 (j5 ((t8 ((a7o ((t8 (b6 4) ((Z6 (c8).u).u)).u) (b6 7)).u) (c8).u).u) ((t8 (b6 12) (c8).u).u)))
  (d8 (F5 ((b0m (t7 b1x (b6 13) (b6 6)) (a6g (t7 a8U (b6 14) ((t8 ((a7o (b6 6) (b6 13)).u) (c8).u).u)))).t) (d8 (b2J 6 (D4 (f6 (f7 14) (f6 (f7 7) (f6 (f7 10) (f6 (f7 11) j3))))) (b6 13))) n5)))) n5)))))))))
  (a7q 6 (d8 (b2u 4 Q6 (f6 (f7 6) j3)))))))
  (d8 (F8 4))))
theorem a5L {cn : Bool} (Wf : WF mg) (a14 : ∀ cn, FnD P w K mg base cn 2 "stairs" 2 C9) (C7 : b66 K mg "NoLayout") : SVs ⟨P, w, K, mg, base, a8R, a4t, fun _ => true, 2, true, none, cn, true, none⟩ (defBody U6) L9 :=
 b8 (i6 2 (l7 (a14 _) (d2 (f7 0) (d2 (f7 1) k9))))
  (b8 (a16 3 (own := [("state", 4)]) (c1u (t8 (b6 2) ((Z6 (c8).u).u))) (i4 4) (a5U (t7 b1z ((t8 (b6 4) (c8).u).u) (c8).u)) (D4 (f6 (t8 ((a7o ((t8 (b6 2) ((Z6 (c8).u).u)).u) (b6 4)).u) (c8).u) (f6 (f7 4) j3))))
  (b8 (F5 (t7 a8M (b6 3) ((l6 j3).u)) (d8 (a67 C7)) n5)
  (b8 (i6 4 (t8 ((E5 b3P Wf.fr_min (d5 (b6 3) i9)).u) (c8).u))
  (b8 (i6 5 (l6 j3))
  (b8 (C4 (b0K (d5 ((R7 Wf.co_MOST_UNITS).u) (d5 ((Z6 (c8).u).u) (d5 ((Z6 (c8).u).u) i9))) Wf.fr_range) (i4 6)
  (b8 (Y6 (Q9 (k8 (i4 7) (k8 (i4 8) (k8 (i4 9) (k8 (i4 10) I4))))) (a7o ((t8 (b6 2) (b6 6)).u) (b6 4)))
  (b8 (b2u 5 Q6 (f6 (D4 (f6 (f7 9) (f6 (f7 10) j3))) j3))
  (d8 (i6 4 (f7 8))))))
  (d8 (w1 (b39 (b6 5)))))))))
theorem a0A {cn : Bool} (Wf : WF mg)  : SVs ⟨P, w, K, mg, base, a1R, a0D, fun _ => true, 0, true, none, cn, true, none⟩ (defBody G9) H9 :=
 b8 (i6 3 (b4x (b7p (own := [("many", 6), ("lent", 7)]) (a27 (b6 2)) (Q9 (k8 (i4 6) (k8 (i4 7) I4))) K7 (l6 j3))))
  (b8 (i6 4 (l6 j3))
  (b8 (C4 (P6 (d5 (c8).u (d5 ((j5 ((R7 Wf.co_MOST_UNITS).u) (c8).u).u) i9)) Wf.fr_range) (i4 5)
  (b8 (Y6 (Q9 (k8 (i4 6) (k8 (i4 7) I4))) (t8 (b6 2) (b6 5)))
  (b8 (a16 8 (own := [("name", 10), ("width", 11)]) (a27 (b6 1)) (Q9 (k8 (i4 10) (k8 (i4 11) I4))) (a5U (t7 a8M (b6 11) (b6 5))) (f7 10))
  (b8 (a5a 3 D7 ((B4 (b6 5) (c8).u).u) (d5 ((a4w (own := [("name", 10)]) (a27 ((a50 (b6 8) a0e (H8 (b6 7))).u)) (i4 10) K7 (D4 (f6 (f7 10) (f6 c8 j3)))).u) i9))
  (b8 (a5a 3 D7 (b6 5) (d5 ((a4w (own := [("name", 10)]) (a27 (b6 4)) (i4 10) K7 (D4 (f6 (f7 10) (f6 (Z6 (c8).u) j3)))).u) i9))
  (b8 (i6 9 (B4 ((A8 (b6 0) (b6 6)).u) ((E5 a0f Wf.fr_len (d5 (b6 4) i9)).u)))
  (b8 (a5a 3 D7 (b6 5) (d5 ((a4w (own := [("name", 10)]) (a27 ((a50 (b6 8) (H8 (b6 7)) (H8 ((j5 (b6 7) (b6 9)).u))).u)) (i4 10) K7 (D4 (f6 (f7 10) (f6 c8 j3)))).u) i9))
  (d8 (i6 4 (a50 (b6 8) (H8 ((j5 (b6 7) (b6 9)).u)) a0e))))))))))
  (a7q 3 (d8 (F8 3)))))
theorem V7 {cn : Bool} (Wf : WF mg)  : SVs ⟨P, w, K, mg, base, Y5, W4, fun _ => true, 0, true, none, cn, true, none⟩ (defBody E3) D3 :=
 b8 (i6 3 (l6 j3))
  (b8 (C4 (B6 (d5 (b6 2) i9) Wf.fr_range) (i4 4)
  (b8 (i6 5 (a50 (b6 1) (H8 ((A8 (b6 4) (b6 0)).u)) (H8 ((A8 ((j5 (b6 4) (c8).u).u) (b6 0)).u))))
  (d8 (b2u 3 Q6 (f6 (j5 (b6 5) ((A8 ((l6 (f6 J8 j3)).u) ((B4 (b6 0) ((E5 a0f Wf.fr_len (d5 (b6 5) i9)).u)).u)).u)) j3)))))
  (d8 (F8 3)))
theorem a1q {cn : Bool} (Wf : WF mg)  : SVs ⟨P, w, K, mg, base, a2j, a1b, fun _ => true, 0, true, none, cn, true, none⟩ (defBody J2) K6 :=
 b8 (i6 1 (l6 j3))
  (b8 (i6 2 a71)
  (b8 (C4 (b0S (f7 0)) (i4 3)
  (b8 (i6 4 (b2s b3W Wf.fr_list (d5 (b6 3) i9)))
  (b8 (F5 ((a0P (b2K (a1D (b6 2))) (U4 (t7 b9a (J8).u (b6 4)))).t) (b8 (b2J 4 (D4 (f6 b3g (f6 c8 j3))) ((b30 b0h (b6 4) (d5 (J8).u i9)).u))
  (d8 (i6 2 a71))) n5)
  (d8 (b2u 1 Q6 (f6 (b2s a1h Wf.fr_tuple (d5 (b6 4) i9)) j3))))))
  (d8 (w1 (b2s a1h Wf.fr_tuple (d5 (b6 1) i9))))))
theorem a8C {cn : Bool} (Wf : WF mg) (V1 : ∀ cn, FnD P w K mg base cn 3 "best_way" 2 r8) (G7 : ∀ cn, FnD P w K mg base cn 1 "contents_of" 3 q9) (O5 : ∀ cn, FnD P w K mg base cn 1 "counts_of" 1 w5) (E0 : ∀ cn, FnD P w K mg base cn 1 "rows_of_units" 3 n6) (K2 : ∀ cn, FnD P w K mg base cn 1 "with_blank" 1 v4) (C7 : b66 K mg "NoLayout") : SVs ⟨P, w, K, mg, base, b1c, a8H, fun _ => true, 3, true, none, cn, true, none⟩ (defBody Z8) K5 :=
 b8 (Y6 (Q9 (k8 (i4 2) (k8 (i4 3) I4))) (f7 0))
  (b8 (F5 (t7 b1z ((E5 a0f Wf.fr_len (d5 (b6 1) i9)).u) ((A8 (b6 2) (b6 3)).u)) (d8 (a67 C7)) n5)
  (b8 (i6 4 (l7 (V1 _) (d2 (f7 0) (d2 (l7 (O5 _) (d2 (f7 1) k9)) k9))))
  (a7q 4 (b8 (i6 5 (l7 (G7 _) (d2 (f7 2) (d2 (f7 1) (d2 (f7 4) k9)))))
  (b8 (i6 6 (l6 j3))
  (b8 (i6 7 (l6 j3))
  (b8 (C4 (P6 (d5 (c8).u (d5 ((j5 ((R7 Wf.co_MOST_UNITS).u) (c8).u).u) i9)) Wf.fr_range) (i4 8)
  (b8 (i6 9 (t8 ((t8 (b6 4) (b6 8)).u) (c8).u))
  (b8 (a6T 6 D7 (d5 ((A8 ((l6 (f6 (f7 8) j3)).u) (b6 9)).u) i9))
  (d8 (a6T 7 D7 (d5 ((l7 (E0 _) (d2 (f7 2) (d2 (t8 (b6 5) (b6 8)) (d2 (f7 9) k9)))).u) i9))))))
  (b8 (i6 10 (B4 (b6 3) ((E5 a0f Wf.fr_len (d5 (b6 7) i9)).u)))
  (b8 (a6T 7 D7 (d5 ((a4w (own := [("row", 11)]) (B6 (d5 (b6 10) i9) Wf.fr_range) (i4 11) K7 (A8 ((l6 (f6 J8 j3)).u) (b6 2))).u) i9))
  (d8 (w1 (D4 (f6 (b2s a1h Wf.fr_tuple (d5 ((j5 (b6 6) ((A8 ((l6 (f6 c8 j3)).u) (b6 10)).u)).u) i9)) (f6 (b2S (l7 (K2 _) (d2 (f7 7) k9))) j3))))))))))))))
theorem a8w {cn : Bool} (Wf : WF mg)  : SVs ⟨P, w, K, mg, base, b0k, a8K, fun _ => true, 0, true, none, cn, true, none⟩ (defBody Z0) a0h :=
 b8 (i6 1 c8)
  (b8 (C4 (b0S (t8 (b6 0) (c8).u)) (i4 2)
  (d8 (b6I 1 ((E5 a0f Wf.fr_len (d5 ((a4w (own := [("cell", 3)]) (a27 (b6 2)) (i4 3) (a5U ((a0P (T5 (b6 3)) (U4 (t7 b7I ((t8 (b6 3) (c8).u).u) (c8).u))).t)) (f7 3)).u) i9)).u))))
  (d8 (F8 1)))
theorem a55 {cn : Bool} (Wf : WF mg)  : SVs ⟨P, w, K, mg, base, a7P, a4n, fun _ => true, 0, true, none, cn, true, none⟩ (defBody T1) L7 :=
 b8 (F5 (t7 a8U (b6 1) ((a2q 0 Wf.fr_len).u)) (d8 (w1 (a7t 0 (b6 1)))) n5)
  (d8 (w1 c8))
theorem a8L {cn : Bool} (Wf : WF mg) (S9 : ∀ cn, FnD P w K mg base cn 1 "_law_cell" 2 v8) : SVs ⟨P, w, K, mg, base, b0F, a8F, fun _ => true, 1, true, none, cn, true, none⟩ (defBody Z4) P4 :=
 b8 (i6 2 (V6 ((E5 b3n Wf.fr_abs (d5 ((l7 (S9 _) (d2 (f7 0) (d2 (f7 1) k9))).u) i9)).u) ((A8 ((A8 ((a0Q (c8).u (c8).u).u) ((a0Q (c8).u (c8).u).u)).u) ((a0Q (c8).u (c8).u).u)).u)))
  (b8 (F5 (t7 b1z (b6 2) ((a0Q (c8).u (c8).u).u)) (d8 (w1 (l6 (f6 (f7 2) (f6 c8 j3))))) n5)
  (b8 (i6 3 (V6 ((j5 ((j5 (b6 2) ((A8 (c8).u (b6 1)).u)).u) (c8).u).u) (c8).u))
  (b8 (C4 (B6 (d5 ((E5 X8 Wf.fr_min (d5 ((a2q 0 Wf.fr_len).u) (d5 (c8).u i9))).u) i9) Wf.fr_range) (i4 4)
  (d8 (i6 3 (V6 ((j5 ((j5 ((a0Q (b6 3) (c8).u).u) ((V6 ((a7t 0 (b6 4)).u) (c8).u).u)).u) ((A8 (c8).u (b6 4)).u)).u) (c8).u))))
  (d8 (w1 (l6 (f6 (f7 3) (f6 c8 j3))))))))
theorem a40 {cn : Bool} (Wf : WF mg)  : SVs ⟨P, w, K, mg, base, a8b, a5z, fun _ => true, 0, true, none, cn, true, none⟩ (defBody T3) L5 :=
 b8 (F5 (t7 a8M ((H0 0 (c8).u).u) (c8).u) (b8 (i6 2 (V6 ((H0 0 (c8).u).u) (b6 1)))
  (b8 (a4I 0 (a9H ((H0 0 (c8).u).u) (b6 1)) (c8).u)
  (d8 (F8 2)))) n5)
  (b8 (a4I 0 (V6 ((j5 ((j5 ((a0Q ((H0 0 (c8).u).u) (c8).u).u) ((A8 (c8).u ((H0 0 (c8).u).u)).u)).u) (c8).u).u) (c8).u) (c8).u)
  (b8 (a4I 0 (j5 ((H0 0 (c8).u).u) (c8).u) (c8).u)
  (d8 (w1 (V6 ((a9H ((V6 ((A8 ((H0 0 (c8).u).u) (c8).u).u) (c8).u).u) (c8).u).u) (b6 1))))))
theorem a2r {cn : Bool} {r : Nat} {fR : Fn} (Wf : WF mg) (D5 : ∀ cn, FnD P w K mg base cn (r + 1) "_law_least" 3 fR)  : SVs ⟨P, w, K, mg, base, Z7, V4, fun _ => true, r + 1, true, none, cn, true, none⟩ (defBody M7) (o4 fR) :=
 b8 (F5 (t7 a8M (b6 0) ((l6 j3).u)) (d8 (w1 c8)) n5)
  (b8 (i6 3 J8)
  (b8 (C4 (B6 (d5 ((E5 a0f Wf.fr_len (d5 (b6 1) i9)).u) i9) Wf.fr_range) (i4 4)
  (b8 (i6 5 (E5 b3n Wf.fr_abs (d5 ((B4 ((t8 (b6 0) (c8).u).u) ((t8 (b6 1) (b6 4)).u)).u) i9)))
  (d8 (F5 ((a0P (t7 b6k ((t8 (b6 2) (b6 4)).u) (c8).u) (U4 (t7 a8U (b6 5) (c8).u))).t) (b8 (i6 6 (j5 ((j5 ((a50 (b6 2) a0e (H8 (b6 4))).u) ((l6 (f6 (B4 ((t8 (b6 2) (b6 4)).u) (c8).u) j3)).u)).u) ((a50 (b6 2) (H8 ((j5 (b6 4) (c8).u).u)) a0e).u)))
  (b8 (i6 7 (b2S (l7 (D5 _) (d2 (a50 (b6 0) (H8 (c8).u) a0e) (d2 (f7 1) (d2 (f7 6) k9))) (hj := by (try dsimp only [Cc.blk]); (try dsimp only); omega))))
  (d8 (F5 ((a0P (T5 (b6 7)) (U4 ((b0m (a7A (b6 3)) (a6g (t7 a8U ((j5 (b6 5) (b6 7)).u) (b6 3)))).t))).t) (d8 (i6 3 (j5 (b6 5) (b6 7)))) n5)))) n5))))
  (d8 (F8 3))))
theorem W5 {cn : Bool} {r : Nat} {fR : Fn} (Wf : WF mg) (r7 : ∀ cn, FnD P w K mg base cn (r + 1) "_law_all_units" 3 fR)  : SVs ⟨P, w, K, mg, base, K9, I6, fun _ => true, r + 1, true, none, cn, true, none⟩ (defBody D8) (j6 fR) :=
 b8 (F5 (t7 a8M (b6 2) (c8).u) (d8 (w1 (l6 (f6 (l6 j3) j3)))) n5)
  (b8 (i6 3 (l6 j3))
  (b8 (C4 (P6 (d5 (b6 0) (d5 ((j5 (b6 1) (c8).u).u) i9)) Wf.fr_range) (i4 4)
  (d8 (a6T 3 D7 (d5 ((a4w (own := [("_law_rest", 5)]) (a27 ((l7 (r7 _) (d2 (f7 4) (d2 (f7 1) (d2 (B4 (b6 2) (c8).u) k9))) (hj := by (try dsimp only [Cc.blk]); (try dsimp only); omega)).u)) (i4 5) K7 (j5 ((l6 (f6 (f7 4) j3)).u) (b6 5))).u) i9))))
  (d8 (F8 3))))
theorem a4h {cn : Bool} (Wf : WF mg) (r7 : ∀ cn, FnD P w K mg base cn 6 "_law_all_units" 3 t6) (D5 : ∀ cn, FnD P w K mg base cn 8 "_law_least" 3 w8) : SVs ⟨P, w, K, mg, base, a7Z, a4b, fun _ => true, 8, true, none, cn, true, none⟩ (defBody T9) G3 :=
 b8 (F5 (t7 b1z ((E5 a0f Wf.fr_len (d5 (b6 1) i9)).u) ((A8 ((t8 (b6 0) (c8).u).u) ((t8 (b6 0) (c8).u).u)).u)) (d8 (w1 J8)) n5)
  (b8 (F5 (t7 a8M (b6 1) ((l6 j3).u)) (d8 (w1 c8)) n5)
  (b8 (i6 2 J8)
  (b8 (C4 (b0S (l7 (r7 _) (d2 (E5 a1l Wf.fr_max (d5 (c8).u (d5 ((B4 ((E5 b4s Wf.fr_min (d5 (b6 1) i9)).u) (c8).u).u) i9))) (d2 (E5 X8 Wf.fr_min (d5 (c8).u (d5 ((j5 ((E5 b3w Wf.fr_max (d5 (b6 1) i9)).u) (c8).u).u) i9))) (d2 (t8 (b6 0) (c8).u) k9))))) (i4 3)
  (b8 (i6 4 (l7 (D5 _) (d2 (f7 1) (d2 (f7 3) (d2 (A8 ((l6 (f6 (t8 (b6 0) (c8).u) j3)).u) ((t8 (b6 0) (c8).u).u)) k9)))))
  (d8 (F5 ((a0P (T5 (b6 4)) (U4 ((b0m (a7A (b6 2)) (a6g (t7 a8U (b6 4) (b6 2)))).t))).t) (d8 (i6 2 (f7 4))) n5))))
  (d8 (F8 2)))))
theorem a3x {cn : Bool} (Wf : WF mg) (Y8 : ∀ cn, FnD P w K mg base cn 4 "lay_out" 2 m9) (S8 : b8g K mg "NoLayout") : SVs ⟨P, w, K, mg, base, a4X, a2S, fun _ => true, 4, true, none, cn, true, none⟩ (defBody M8) I0 :=
 b8 (i6 2 J8)
  (b8 (b7z (d8 (i6 2 (l7 (Y8 _) (d2 (f7 0) (d2 (f7 1) k9))))) (HV.cons S8 rfl (by decide) (fun _ => d8 (i6 2 J8)) HV.nil))
  (d8 (F8 2)))
theorem b6w {cn : Bool} (Wf : WF mg) (Z1 : ∀ cn, FnD P w K mg base cn 2 "_law_bag" 2 D9) (T4 : ∀ cn, FnD P w K mg base cn 9 "_law_due" 2 r9) (N5 : ∀ cn, FnD P w K mg base cn 5 "_law_said" 2 k6) (v9 : ∀ cn, FnD P w K mg base cn 1 "_law_take" 2 j7) (Z9 : ∀ cn, FnD P w K mg base cn 1 "cams_in" 1 v6) : SVs ⟨P, w, K, mg, base, b6K, b2O, fun _ => true, 9, true, none, cn, true, none⟩ (defBody b4G) b2m :=
 b8 (C4 (B6 (d5 (c8).u i9) Wf.fr_range) (i4 1)
  (b8 (b3J 2 (l7 (Z1 _) (d2 (f7 0) (d2 (f7 1) k9))))
  (b8 (i6 3 (D4 (f6 (j5 (c8).u ((l7 (v9 _) (d2 (f7 2) (d2 c8 k9))).u)) (f6 (j5 (c8).u ((l7 (v9 _) (d2 (f7 2) (d2 c8 k9))).u)) j3))))
  (b8 (i6 4 (l7 (v9 _) (d2 (f7 2) (d2 c8 k9))))
  (b8 (i6 5 (j5 (c8).u ((l7 (v9 _) (d2 (f7 2) (d2 c8 k9))).u)))
  (b8 (i6 6 (j5 (c8).u ((l7 (v9 _) (d2 (f7 2) (d2 (B4 (c8).u (b6 5)) k9))).u)))
  (b8 (a16 7 (own := [("_law_j", 11)]) (B6 (d5 (b6 4) i9) Wf.fr_range) (i4 11) K7 (D4 (f6 (t8 (b3g).u (b6 11)) (f6 (j5 (b6 6) ((l7 (v9 _) (d2 (f7 2) (d2 (f7 5) k9))).u)) j3))))
  (b8 (i6 8 (l7 (T4 _) (d2 (f7 3) (d2 (a4w (own := [("_law_name", 12), ("_law_width", 13)]) (a27 (b6 7)) (Q9 (k8 (i4 12) (k8 (i4 13) I4))) K7 (f7 13)) k9))))
  (a7q 7 (b8 (i6 9 (l7 (N5 _) (d2 (f7 3) (d2 (f7 7) k9))))
  (b8 (F5 ((a0P (a7A (b6 8)) (U4 (T5 (b6 9)))).t) (d8 (w1 a71)) n5)
  (d8 (F5 (T5 (b6 8)) (b8 (F5 (a7A (b6 9)) (d8 (w1 a71)) n5)
  (b8 (i6 10 (l7 (Z9 _) (d2 (f7 9) k9)))
  (d8 (F5 ((b0m (b2K (a1D ((b2F (b6 10) Wf.fr_isinstance Wf.fr_int b48).u))) (b0m (a1D ((b2F (b6 10) Wf.fr_isinstance Wf.fr_bool b10).u)) (a6g (t7 b7I (b6 10) (b6 8))))).t) (d8 (w1 a71)) n5)))) n5)))))))))))))
  (d8 (w1 a71))
end
set_option maxHeartbeats 0
theorem facts {P : Program} {w : World} {K : PySem.W.Frag} {h : Heap} {mg : Str → Option Value} {f : Addr} (X : K.In h) (Gn : h.Ns mainGlobals mg) (hfa : mg ("law" : Str) = some (.ref f)) (c : SaysB faL dfL tsL exL w K) :
  ∃ fd : FuncData, (∀ (s : Shared) (v : Value), BindsTo s fd ⟨[v], []⟩ [("_law_script", v)]) ∧ ∀ base : Heap, FnOk P w K mg base (CXg false P w) 10 f fd ["_law_script"] (spD K mg 1 a4x) := by
 have Wf : WF mg := ⟨He.int_ok X Gn (c.fact 18 (f := .int "MOST_UNITS" 30) rfl), He.free_ok X Gn (c.fact 19 (f := .free "abs") rfl), He.free_ok X Gn (c.fact 20 (f := .free "bool") rfl), He.free_ok X Gn (c.fact 21 (f := .free "int") rfl), He.free_ok X Gn (c.fact 22 (f := .free "isinstance") rfl), He.free_ok X Gn (c.fact 23 (f := .free "len") rfl), He.free_ok X Gn (c.fact 24 (f := .free "list") rfl), He.free_ok X Gn (c.fact 25 (f := .free "max") rfl), He.free_ok X Gn (c.fact 26 (f := .free "min") rfl), He.free_ok X Gn (c.fact 27 (f := .free "range") rfl), He.free_ok X Gn (c.fact 28 (f := .free "sorted") rfl), He.free_ok X Gn (c.fact 29 (f := .free "tuple") rfl)⟩
 have C7 : b66 K mg "NoLayout" := b32 X Gn (c.fact 30 (f := .glo "NoLayout") rfl) (c.fact 31 (f := .exc "NoLayout") rfl)
 have S8 : b8g K mg "NoLayout" := b3G X Gn (c.more_ 0 (e := fun K => b02 K "NoLayout") rfl)
 have gl : ∀ (i : Nat) {x : Str}, faL[i]? = some (.glo x) → mg x = some (.ref (He.ga K x)) := fun i x h => He.glo_ok X Gn (c.fact i (f := .glo x) h)
 obtain ⟨b2Y, a5F⟩ := c.dO 0 (n := "counts_of") (s := N3) rfl
 have O5 : ∀ base, ∀ cn, FnD P w K mg base cn 1 "counts_of" 1 w5 := fun base cn => o7 (ps := ["letters"]) a5F (by kernel_rfl) (a0U (by kernel_rfl)) (gl 0 rfl) (al1 fun _ _ _ _ _ _ _ => rfl) (by decide) rfl (a2s Wf  )
 obtain ⟨b7i, b2a⟩ := c.dO 1 (n := "onward") (s := a1U) rfl
 have a1p : ∀ base, ∀ cn, FnD P w K mg base cn 1 "onward" 6 G1 := fun base cn => o7 (ps := ["wide", "counts", "units", "spare", "many", "lent"]) b2a (by kernel_rfl) (a0U (by kernel_rfl)) (gl 1 rfl) (al6 fun _ _ _ _ _ _ _ _ _ _ _ _ => rfl) (by decide) rfl (b0e Wf  )
 obtain ⟨b2H, a44⟩ := c.dO 2 (n := "most_rows") (s := N9) rfl
 have O8 : ∀ base, ∀ cn, FnD P w K mg base cn 1 "most_rows" 4 w7 := fun base cn => o7 (ps := ["wide", "counts", "units", "spare"]) a44 (by kernel_rfl) (a0U (by kernel_rfl)) (gl 2 rfl) (al4 fun _ _ _ _ _ _ _ _ _ _ => rfl) (by decide) rfl (a29 Wf  )
 obtain ⟨b59, b1E⟩ := c.dO 3 (n := "stairs") (s := a17) rfl
 have a14 : ∀ base, ∀ cn, FnD P w K mg base cn 2 "stairs" 2 C9 := fun base cn => o7 (ps := ["size", "counts"]) b1E (by kernel_rfl) (a0U (by kernel_rfl)) (gl 3 rfl) (al2 fun _ _ _ _ _ _ _ _ => rfl) (by decide) rfl (b0c Wf (O8 base) (a1p base) )
 obtain ⟨b4e, a8x⟩ := c.dO 4 (n := "best_way") (s := U6) rfl
 have V1 : ∀ base, ∀ cn, FnD P w K mg base cn 3 "best_way" 2 r8 := fun base cn => o7 (ps := ["size", "counts"]) a8x (by kernel_rfl) (a0U (by kernel_rfl)) (gl 4 rfl) (al2 fun _ _ _ _ _ _ _ _ => rfl) (by decide) rfl (a5L Wf (a14 base) C7)
 obtain ⟨b1i, a1S⟩ := c.dO 5 (n := "contents_of") (s := G9) rfl
 have G7 : ∀ base, ∀ cn, FnD P w K mg base cn 1 "contents_of" 3 q9 := fun base cn => o7 (ps := ["wide", "letters", "way"]) a1S (by kernel_rfl) (a0U (by kernel_rfl)) (gl 5 rfl) (al3 fun _ _ _ _ _ _ _ _ _ => rfl) (by decide) rfl (a0A Wf  )
 obtain ⟨a9y, Y3⟩ := c.dO 6 (n := "rows_of_units") (s := E3) rfl
 have E0 : ∀ base, ∀ cn, FnD P w K mg base cn 1 "rows_of_units" 3 n6 := fun base cn => o7 (ps := ["wide", "cells", "many"]) Y3 (by kernel_rfl) (a0U (by kernel_rfl)) (gl 6 rfl) (al3 fun _ _ _ _ _ _ _ _ _ => rfl) (by decide) rfl (V7 Wf  )
 obtain ⟨b2w, a22⟩ := c.dO 7 (n := "with_blank") (s := J2) rfl
 have K2 : ∀ base, ∀ cn, FnD P w K mg base cn 1 "with_blank" 1 v4 := fun base cn => o7 (ps := ["rows"]) a22 (by kernel_rfl) (a0U (by kernel_rfl)) (gl 7 rfl) (al1 fun _ _ _ _ _ _ _ => rfl) (by decide) rfl (a1q Wf  )
 obtain ⟨b5Q, b0f⟩ := c.dO 8 (n := "lay_out") (s := Z8) rfl
 have Y8 : ∀ base, ∀ cn, FnD P w K mg base cn 4 "lay_out" 2 m9 := fun base cn => o7 (ps := ["size", "letters"]) b0f (by kernel_rfl) (a0U (by kernel_rfl)) (gl 8 rfl) (al2 fun _ _ _ _ _ _ _ _ => rfl) (by decide) rfl (a8C Wf (V1 base) (G7 base) (O5 base) (E0 base) (K2 base) C7)
 obtain ⟨b5r, a99⟩ := c.dO 9 (n := "cams_in") (s := Z0) rfl
 have Z9 : ∀ base, ∀ cn, FnD P w K mg base cn 1 "cams_in" 1 v6 := fun base cn => o7 (ps := ["case"]) a99 (by kernel_rfl) (a0U (by kernel_rfl)) (gl 9 rfl) (al1 fun _ _ _ _ _ _ _ => rfl) (by decide) rfl (a8w Wf  )
 obtain ⟨b4z, a9b⟩ := c.dO 10 (n := "_law_cell") (s := T1) rfl
 have S9 : ∀ base, ∀ cn, FnD P w K mg base cn 1 "_law_cell" 2 v8 := fun base cn => o7 (ps := ["_law_script", "_law_k"]) a9b (by kernel_rfl) (a0U (by kernel_rfl)) (gl 10 rfl) (al2 fun _ _ _ _ _ _ _ _ => rfl) (by decide) rfl (a55 Wf  )
 obtain ⟨b5z, b0n⟩ := c.dO 11 (n := "_law_bag") (s := Z4) rfl
 have Z1 : ∀ base, ∀ cn, FnD P w K mg base cn 2 "_law_bag" 2 D9 := fun base cn => o7 (ps := ["_law_script", "_law_at"]) b0n (by kernel_rfl) (a0U (by kernel_rfl)) (gl 11 rfl) (al2 fun _ _ _ _ _ _ _ _ => rfl) (by decide) rfl (a8L Wf (S9 base) )
 obtain ⟨b3Q, a81⟩ := c.dO 12 (n := "_law_take") (s := T3) rfl
 have v9 : ∀ base, ∀ cn, FnD P w K mg base cn 1 "_law_take" 2 j7 := fun base cn => o7 (ps := ["_law_bag_here", "_law_many"]) a81 (by kernel_rfl) (a0U (by kernel_rfl)) (gl 12 rfl) (al2 fun _ _ _ _ _ _ _ _ => rfl) (by decide) rfl (a40 Wf  )
 obtain ⟨b2G, a0b⟩ := c.dO 13 (n := "_law_least") (s := M7) rfl
 have FR_law_least : ∀ base, ∀ r : Nat, ∀ cn, FnD P w K mg base cn (r + 1) "_law_least" 3 (a9X 8 o4 r) := fun base r => Nat.rec (motive := fun r => ∀ cn, FnD P w K mg base cn (r + 1) "_law_least" 3 (a9X 8 o4 r)) (fun cn => o7 (k := 0) (N := Z7) (sc := V4) (cod := none) (ps := ["_law_widths", "_law_units", "_law_room"]) a0b (by kernel_rfl) (a0U (by kernel_rfl)) (gl 13 rfl) (al3 fun _ _ _ _ _ _ _ _ _ => rfl) (by decide) rfl b05) (fun r ih cn => o7 (k := r + 1) (ps := ["_law_widths", "_law_units", "_law_room"]) a0b (by kernel_rfl) (a0U (by kernel_rfl)) (gl 13 rfl) (al3 fun _ _ _ _ _ _ _ _ _ => rfl) (by decide) rfl (a2r Wf ih  )) r
 have D5 : ∀ base, ∀ cn, FnD P w K mg base cn 8 "_law_least" 3 w8 := fun base cn => FR_law_least base 7 cn
 obtain ⟨a9u, J6⟩ := c.dO 14 (n := "_law_all_units") (s := D8) rfl
 have FR_law_all_units : ∀ base, ∀ r : Nat, ∀ cn, FnD P w K mg base cn (r + 1) "_law_all_units" 3 (a9X 6 j6 r) := fun base r => Nat.rec (motive := fun r => ∀ cn, FnD P w K mg base cn (r + 1) "_law_all_units" 3 (a9X 6 j6 r)) (fun cn => o7 (k := 0) (N := K9) (sc := I6) (cod := none) (ps := ["_law_low", "_law_high", "_law_many"]) J6 (by kernel_rfl) (a0U (by kernel_rfl)) (gl 14 rfl) (al3 fun _ _ _ _ _ _ _ _ _ => rfl) (by decide) rfl b05) (fun r ih cn => o7 (k := r + 1) (ps := ["_law_low", "_law_high", "_law_many"]) J6 (by kernel_rfl) (a0U (by kernel_rfl)) (gl 14 rfl) (al3 fun _ _ _ _ _ _ _ _ _ => rfl) (by decide) rfl (W5 Wf ih  )) r
 have r7 : ∀ base, ∀ cn, FnD P w K mg base cn 6 "_law_all_units" 3 t6 := fun base cn => FR_law_all_units base 5 cn
 obtain ⟨b4a, a8g⟩ := c.dO 15 (n := "_law_due") (s := T9) rfl
 have T4 : ∀ base, ∀ cn, FnD P w K mg base cn 9 "_law_due" 2 r9 := fun base cn => o7 (ps := ["_law_size", "_law_widths"]) a8g (by kernel_rfl) (a0U (by kernel_rfl)) (gl 15 rfl) (al2 fun _ _ _ _ _ _ _ _ => rfl) (by decide) rfl (a4h Wf (r7 base) (D5 base) )
 obtain ⟨b2E, a5t⟩ := c.dO 16 (n := "_law_said") (s := M8) rfl
 have N5 : ∀ base, ∀ cn, FnD P w K mg base cn 5 "_law_said" 2 k6 := fun base cn => o7 (ps := ["_law_size", "_law_letters"]) a5t (by kernel_rfl) (a0U (by kernel_rfl)) (gl 16 rfl) (al2 fun _ _ _ _ _ _ _ _ => rfl) (by decide) rfl (a3x Wf (Y8 base) S8)
 obtain ⟨b6i, b6f⟩ := c.dO 17 (n := "law") (s := b4G) rfl
 have e := hfa.symm.trans (He.glo_ok X Gn (c.fact 17 (f := .glo "law") rfl))
 cases e
 have b := FunD.bindsA (ps := ["_law_script"]) b6f (fun _ _ _ _ _ _ us hl => match us, hl with | [_], _ => rfl)
 exact ⟨b6i, fun s v => b s [v] rfl, fun base => b3x (N := b6K) (g := b2m) (sc := b2O) (ps := ["_law_script"]) b6f (by kernel_rfl) (a0U (by kernel_rfl)) (by decide) rfl (b6w Wf (Z1 base) (T4 base) (N5 base) (v9 base) (Z9 base) )⟩
end BV
open PySem PySem.W PySem.Calls PyProof.Rows
set_option maxHeartbeats 0 in
theorem PySem.Challenge.cw_ribboncast_k21_laid_out_by_all_ways_holds : PySem.Challenge.rw_ribboncast_k21_laid_out_by_all_ways.Holds := by
 w_on; o_law
 refine HandSHeadRun.head_any (r := OpenLaw.row PySem.Challenge.rw_ribboncast_k21_laid_out_by_all_ways) (q := view (OpenLaw.row PySem.Challenge.rw_ribboncast_k21_laid_out_by_all_ways).prog [23]) (H := BV.hk) (ob := BV.ob) (M := 9000) (loose := BV.nmL) (d := HandSHeadRun.topDef (OpenLaw.row PySem.Challenge.rw_ribboncast_k21_laid_out_by_all_ways).prog 23) (kwd := []) BV.ob_eq
  (by kernel_rfl) (fun s => by kernel_rfl) BV.run (by kernel_rfl) (by kernel_rfl) (by kernel_rfl) (by rfl) (by first | assumption | decide +kernel) (by decide +kernel) ⟨rfl, rfl, rfl, rfl, rfl, by decide +kernel⟩ ?hw ?hc
 case hw => w_witness2
 case hc =>
  refine BV.walk_ofCX (l := PySem.Challenge.rw_ribboncast_k21_laid_out_by_all_ways) (n := 63) (k := 10) (x := "_law_script") (CX := BV.CXg false (PySem.Challenge.rw_ribboncast_k21_laid_out_by_all_ways).prog) rfl (by decide) (by kernel_rfl) ⟨rfl, by decide, by decide⟩ ?F (BV.cx_no (cn := false))
  intro w mg fa h Y G hmg0
  obtain ⟨K, KX, c⟩ := Y
  have hmg : mg ("law" : PySem.Str) = some (.ref fa) := by
   have e : (HandSHeadRun.topDef (OpenLaw.row PySem.Challenge.rw_ribboncast_k21_laid_out_by_all_ways).prog 23).name = ("law" : PySem.Str) := by kernel_rfl
   rw [← e]
   exact hmg0
  obtain ⟨fd, hb, hF⟩ := BV.facts (P := (PySem.Challenge.rw_ribboncast_k21_laid_out_by_all_ways).prog) (w := w) KX G hmg c
  exact ⟨K, fd, _, KX, hb, fun H a ns hl _ hS => BV.law_sp hl hS (BV.law_true ns hl), fun base _ _ => hF base⟩
