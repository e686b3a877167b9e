import PyProof.Rows.All
import Wide.All
import OpenK.AllK
import Wide.FinOn
import HandS.ForMost
import HandS.ForExc
import HandS.Wide
import HandS.IsInst
import HandS.FStr
import HandS.Deep
import HandS.TupAny
import HandS.HotCalls
import HandS.HeadHook1
import HandS.Lambda
import HandS.SortKw
import HandS.HeadHook4
import KE.SortKeyHeap
import HandS.Dict
import HandS.Small
import HandS.Flow
import HandS.TryOnly
import HandS.More
import HandS.Defaults
import HandS.Ends
import HandS.StrMore
import HandS.RaiseMore
import HandS.Style
import KE.GoesEnum
import HandS.Zip
import HandS.ExcInit
import HandS.ExcOwn
import HandS.TryMany
import HandS.SortInts
import HandS.WordsDict
import HandS.HeadHook2
import HandS.HeadHook3
import KE.KExcIs
import HandS.ExcField
import HandS.ExcCtx
import HandS.WideBits
import HandS.TupMul
import PyProof.IsRules
import PyProof.Rows.TupDisplay
import HandS.ExcIs
import KE.DataMinMax
import PyProof.Claim2Refuses
import KE.KDictCopyH
import HandS.Iter
import KE.KDictZip
import HandS.Strs
import HandS.SetFor
import HandS.Set
import HandS.Replace
import HandS.EndTab
import HandS.Head2
import KE.SortData
import KE.KIntText
import HandS.ExcInitHot
import HandS.RaiseFrom
import HandS.SuiteRaise
import KE.IntTextLaws
import KE.KTryMore
import PyProof.SumWalkG
import PyProof.WalksMore
import PyProof.ListOps
import PyProof.FactsAll.subtypes_4
import KE.GoesZip
import KE.GoesMore
import KE.KTurns
import HandS.Head0
import HandS.Head1
import HandS.HeadEnd
import PySem.Challenge.RW_ribboncast_k20_laid_out
set_option Elab.async false
set_option linter.all false
set_option maxRecDepth 100000
set_option maxHeartbeats 4000000
namespace BV
open PySem PySem.Spec PyProof.Rows L2

abbrev D := PyData
inductive Ow where
 | slot (i : Nat) | cell (n : Nat) | tmp | prot | seen
 deriving DecidableEq
abbrev Gh := Addr → Option Ow

def b1f : Key → D
 | .inl i => .int i
 | .inr x => .str x
def c2t (ks : List Int) : Int := reduceHash (Builtin.Tuple.tupleHashOf (ks.map hashInt))
def c03 (x : List Int × Addr × Value) : DictEntry := ⟨c2t x.1, .ref x.2.1, x.2.2⟩
def tdf (ep : Nat) (a : Addr) (xs : List (List Int × Addr × Value)) (h : Heap) : Prop := ∃ o es, h.get? a = some o ∧ o.ExactDict ∧ o.data = .dict es ep ∧ es.toList = xs.map c03 ∧ (xs.map (·.1)).Nodup
theorem a0q {ep : Nat} {a : Addr} {xs : List (List Int × Addr × Value)} : ∀ h1 h2 : Heap, tdf ep a xs h1 → (∀ o, h1.get? a = some o → h2.get? a = some o) → tdf ep a xs h2 := fun h1 h2 ⟨o, es, e, r⟩ k => ⟨o, es, k o e, r⟩
abbrev HX (H : Hp) (a : Addr) (xs : List (List Int × Addr × Value)) : Prop := ∃ ep, H a = some (.ext (tdf ep a xs))
abbrev KX (K : PySem.W.Frag) (H : Hp) : List (List Int × V) → List (List Int × Addr × Value) → Prop := Paired fun p q => p.1 = q.1 ∧ SqT K H q.2.1 (p.1.map V.int) ∧ RelV p.2 q.2.2
def DAtW (K : PySem.W.Frag) (q : Bool) (H : Hp) (a : Addr) (ks : List D) (vs : List V) : Prop := match q with
 | false => ∃ kvs : List (Key × V), H a = some (.dK kvs) ∧ ks = kvs.map (fun p => b1f p.1) ∧ vs = kvs.map (·.2)
 | true => ∃ (kvs : List (List Int × V)) (xs : List (List Int × Addr × Value)), HX H a xs ∧ KX K H kvs xs ∧ (a == sysModules) = false ∧ ks = kvs.map (fun p => .tuple (p.1.map PyData.int)) ∧ vs = kvs.map (·.2)
def DAt (K : PySem.W.Frag) (q : Bool) (H : Hp) (a : Addr) (ks : List D) (vs : List V) : Prop := match q with
 | false => ∃ kvs : List (Key × V), Rd H a (.dK kvs) ∧ ks = kvs.map (fun p => b1f p.1) ∧ vs = kvs.map (·.2)
 | true => ∃ (kvs : List (List Int × V)) (xs : List (List Int × Addr × Value)), HX H a xs ∧ KX K H kvs xs ∧ (a == sysModules) = false ∧ ks = kvs.map (fun p => .tuple (p.1.map PyData.int)) ∧ vs = kvs.map (·.2)
theorem DAtW.r {K : PySem.W.Frag} {q : Bool} {H : Hp} {a : Addr} {ks : List D} {vs : List V} (h : DAtW K q H a ks vs) : DAt K q H a ks vs := by
 cases q with
 | false =>
  obtain ⟨kvs, e, r⟩ := h
  exact ⟨kvs, .inl e, r⟩
 | true => exact h
def mkD (q : Bool) (kvs : List (D × D)) : List (D × D) := if q then (.none, .none) :: kvs else kvs
def unD : List (D × D) → Bool × List (D × D)
 | (.none, .none) :: r => (true, r)
 | r => (false, r)
theorem b7o (k : Key) (d : D) (r : List (D × D)) : unD ((b1f k, d) :: r) = (false, (b1f k, d) :: r) := by cases k <;> rfl
theorem DAt.un {q : Bool} {H : Hp} {a : Addr} {ks : List D} {vs : List V} {ds : List D} {K : PySem.W.Frag} (h : DAt K q H a ks vs) : unD (mkD q (ks.zip ds)) = (q, ks.zip ds) := by
 cases q with
 | true => rfl
 | false =>
  obtain ⟨kvs, _, e, _⟩ := h
  subst e
  show unD _ = _
  cases kvs with
  | nil => rfl
  | cons p kvs =>
   cases ds with
   | nil => rfl
   | cons d ds => exact b7o p.1 d _

mutual
inductive Rep (K : PySem.W.Frag) (o : Gh) (H : Hp) : V → D → Prop
 | non : Rep K o H .non .none
 | bl (b : Bool) : Rep K o H (.bl b) (.bool b)
 | int (i : Int) : Rep K o H (.int i) (.int i)
 | str (x : Str) : PyData.strOk x = true → x.length ≤ sizeLine → Rep K o H (.str x) (.str x)
 | lst (a : Addr) (vs : List V) (ds : List D) : H a = some (.lst vs) → o a = none → vs.length ≤ sizeLine → RepAll K o H vs ds → Rep K o H (.ref a) (.list ds)
 | tup (a : Addr) (vs : List V) (ds : List D) : SqT K H a vs → vs.length ≤ sizeLine → RepAll K o H vs ds → Rep K o H (.ref a) (.tuple ds)
 | dct (q : Bool) (a : Addr) (ks : List D) (vs : List V) (ds : List D) (kvs : List (D × D)) : DAt K q H a ks vs → o a = none → vs.length ≤ sizeLine → ks.length = vs.length → RepAll K o H vs ds → kvs = mkD q (ks.zip ds) → Rep K o H (.ref a) (.dict kvs)
inductive RepAll (K : PySem.W.Frag) (o : Gh) (H : Hp) : List V → List D → Prop
 | nil : RepAll K o H [] []
 | cons (v : V) (d : D) (vs : List V) (ds : List D) : Rep K o H v d → RepAll K o H vs ds → RepAll K o H (v :: vs) (d :: ds)
end

def E5 : HO → Prop
 | .lst _ => True
 | .dK _ => True
 | .dT _ => True
 | .ext _ => True
 | .ins _ _ _ => True
 | .own _ => True
 | .tbl _ => True
 | _ => False
def Trk (o : Gh) (H : Hp) : Prop := ∀ a, o a ≠ none → ∃ u, H a = some u ∧ E5 u

section
variable {K : PySem.W.Frag} {o o' : Gh} {H H' : Hp}
def Kept (o : Gh) (H : Hp) (o' : Gh) (H' : Hp) : Prop := ∀ a u, H a = some u → o a = none → H' a = some u ∧ o' a = none
theorem b7w {a : Addr} {u : HO} (h : ∀ u, H a = some u → H' a = some u) (r : Rd H a u) : Rd H' a u := by
 rcases r with r | ⟨ob, r⟩
 ·exact .inl (h _ r)
 ·exact .inr ⟨ob, h _ r⟩
theorem KX.kept {kvs : List (List Int × V)} {xs : List (List Int × Addr × Value)} (hk : ∀ b us, SqT K H b us → SqT K H' b us) (r : KX K H kvs xs) : KX K H' kvs xs := Paired.mapP r fun _ _ z => ⟨z.1, hk _ _ z.2.1, z.2.2⟩
theorem DAt.kept {q : Bool} {a : Addr} (h : ∀ u, H a = some u → H' a = some u) (hk : ∀ b us, SqT K H b us → SqT K H' b us) {ks : List D} {vs : List V} (d : DAt K q H a ks vs) : DAt K q H' a ks vs := by
 cases q with
 | false =>
  obtain ⟨kvs, e, r⟩ := d
  exact ⟨kvs, b7w h e, r⟩
 | true =>
  obtain ⟨kvs, xs, e, k, r⟩ := d
  exact ⟨kvs, xs, e.imp fun _ e => h _ e, k.kept hk, r⟩
theorem DAtW.kept {q : Bool} {a : Addr} (h : ∀ u, H a = some u → H' a = some u) (hk : ∀ b us, SqT K H b us → SqT K H' b us) {ks : List D} {vs : List V} (d : DAtW K q H a ks vs) : DAtW K q H' a ks vs := by
 cases q with
 | false =>
  obtain ⟨kvs, e, r⟩ := d
  exact ⟨kvs, h _ e, r⟩
 | true =>
  obtain ⟨kvs, xs, e, k, r⟩ := d
  exact ⟨kvs, xs, e.imp fun _ e => h _ e, k.kept hk, r⟩
theorem c1I {a : Addr} {u : HO} (r : Rd H a u) : ∃ u, H a = some u := by
 rcases r with r | ⟨ob, r⟩
 ·exact ⟨_, r⟩
 ·exact ⟨_, r⟩
theorem DAt.is {q : Bool} {a : Addr} {ks : List D} {vs : List V} (d : DAt K q H a ks vs) : ∃ u, H a = some u ∧ True := by
 cases q with
 | false =>
  obtain ⟨kvs, e, r⟩ := d
  obtain ⟨u, h⟩ := c1I e
  exact ⟨u, h, trivial⟩
 | true =>
  obtain ⟨kvs, xs, ⟨_, e⟩, r⟩ := d
  exact ⟨_, e, trivial⟩
theorem Trk.free (t : Trk o H) {a : Addr} {u : HO} (h : H a = some u) (n : ¬ E5 u) : o a = none := by
 cases e : o a with
 | none => rfl
 | some w =>
  obtain ⟨u', h', q⟩ := t a (by rw [e]; simp)
  rw [h] at h'; cases h'
  exact absurd q n
theorem Trk.new (t : Trk o H) {a : Addr} (h : H a = none) : o a = none := by
 cases e : o a with
 | none => rfl
 | some w =>
  obtain ⟨u', h', q⟩ := t a (by rw [e]; simp)
  rw [h] at h'; cases h'
theorem SqT.kept (t : Trk o H) (k : Kept o H o' H') {a : Addr} {vs : List V} (h : SqT K H a vs) : SqT K H' a vs := by
 rcases h with (h | ⟨ob, h⟩) | h
 ·exact .inl (.inl (k a _ h (t.free h (fun z => z))).1)
 ·exact .inl (.inr ⟨ob, (k a _ h (t.free h (fun z => z))).1⟩)
 ·exact .inr h
mutual
theorem Rep.kept (t : Trk o H) (k : Kept o H o' H') : ∀ {v : V} {d : D}, Rep K o H v d → Rep K o' H' v d
 | _, _, .non => .non
 | _, _, .bl b => .bl b
 | _, _, .int i => .int i
 | _, _, .str x h1 h2 => .str x h1 h2
 | _, _, .lst a vs ds h1 h2 h3 h4 => .lst a vs ds (k a _ h1 h2).1 (k a _ h1 h2).2 h3 (RepAll.kept t k h4)
 | _, _, .tup a vs ds h1 h2 h3 => .tup a vs ds (SqT.kept t k h1) h2 (RepAll.kept t k h3)
 | _, _, .dct tk a ks vs ds kvs h1 h2 h3 h5 h4 e => by
  obtain ⟨u, hu, _⟩ := h1.is
  exact .dct tk a ks vs ds kvs (h1.kept (fun u hu => (k a u hu h2).1) fun b us z => SqT.kept t k z) (k a u hu h2).2 h3 h5 (RepAll.kept t k h4) e
theorem RepAll.kept (t : Trk o H) (k : Kept o H o' H') : ∀ {vs : List V} {ds : List D}, RepAll K o H vs ds → RepAll K o' H' vs ds
 | _, _, .nil => .nil
 | _, _, .cons v d vs ds h1 h2 => .cons v d vs ds (Rep.kept t k h1) (RepAll.kept t k h2)
end
theorem RepAll.length : ∀ {vs : List V} {ds : List D}, RepAll K o H vs ds → vs.length = ds.length
 | _, _, .nil => rfl
 | _, _, .cons v d vs ds _ h2 => by rw [List.length_cons, List.length_cons, RepAll.length h2]
theorem RepAll.append : ∀ {vs ws : List V} {ds es : List D}, RepAll K o H vs ds → RepAll K o H ws es → RepAll K o H (vs ++ ws) (ds ++ es)
 | _, _, _, _, .nil, q => q
 | _, _, _, _, .cons v d vs ds h1 h2, q => .cons v d _ _ h1 (RepAll.append h2 q)
theorem RepAll.get : ∀ {vs : List V} {ds : List D} {i : Nat} {d : D}, RepAll K o H vs ds → ds[i]? = some d → ∃ v, vs[i]? = some v ∧ Rep K o H v d
 | _, _, _, _, .nil, e => by simp at e
 | _, _, 0, _, .cons v d vs ds h1 _, e => by simp at e; subst e; exact ⟨v, rfl, h1⟩
 | _, _, i + 1, _, .cons v d vs ds _ h2, e => by
  obtain ⟨w, q1, q2⟩ := RepAll.get (i := i) h2 (by simpa using e)
  exact ⟨w, by simpa using q1, q2⟩
theorem RepAll.set {v : V} {d : D} (r : Rep K o H v d) : ∀ {vs : List V} {ds : List D} (i : Nat), RepAll K o H vs ds → RepAll K o H (vs.set i v) (ds.set i d)
 | _, _, _, .nil => .nil
 | _, _, 0, .cons _ _ vs ds _ h2 => .cons _ _ _ _ r h2
 | _, _, i + 1, .cons _ _ vs ds h1 h2 => .cons _ _ _ _ h1 (RepAll.set r i h2)
theorem RepAll.take : ∀ {vs : List V} {ds : List D} (n : Nat), RepAll K o H vs ds → RepAll K o H (vs.take n) (ds.take n)
 | _, _, 0, _ => .nil
 | _, _, _ + 1, .nil => .nil
 | _, _, n + 1, .cons _ _ _ _ h1 h2 => .cons _ _ _ _ h1 (RepAll.take n h2)
theorem RepAll.drop : ∀ {vs : List V} {ds : List D} (n : Nat), RepAll K o H vs ds → RepAll K o H (vs.drop n) (ds.drop n)
 | _, _, 0, h => h
 | _, _, _ + 1, .nil => .nil
 | _, _, n + 1, .cons _ _ _ _ _ h2 => RepAll.drop n h2
theorem RepAll.reverse {vs : List V} {ds : List D} (h : RepAll K o H vs ds) : RepAll K o H vs.reverse ds.reverse := by
 induction vs generalizing ds with
 | nil => cases h; exact .nil
 | cons v vs ih =>
  cases h with
  | cons _ d _ ds h1 h2 =>
   rw [List.reverse_cons, List.reverse_cons]
   exact (ih h2).append (.cons _ _ _ _ h1 .nil)
theorem Rep.nonV {v : V} (h : Rep K o H v .none) : v = .non := by cases h; rfl
theorem Rep.blV {v : V} {b : Bool} (h : Rep K o H v (.bool b)) : v = .bl b := by cases h; rfl
theorem Rep.intV {v : V} {i : Int} (h : Rep K o H v (.int i)) : v = .int i := by cases h; rfl
theorem Rep.strV {v : V} {x : Str} (h : Rep K o H v (.str x)) : v = .str x ∧ PyData.strOk x = true ∧ x.length ≤ sizeLine := by cases h; exact ⟨rfl, by assumption, by assumption⟩
theorem Rep.lstV {v : V} {ds : List D} (h : Rep K o H v (.list ds)) : ∃ a vs, v = .ref a ∧ H a = some (.lst vs) ∧ o a = none ∧ vs.length ≤ sizeLine ∧ RepAll K o H vs ds := by
 cases h with
 | lst a vs ds h1 h2 h3 h4 => exact ⟨a, vs, rfl, h1, h2, h3, h4⟩
theorem Rep.tupV {v : V} {ds : List D} (h : Rep K o H v (.tuple ds)) : ∃ a vs, v = .ref a ∧ SqT K H a vs ∧ vs.length ≤ sizeLine ∧ RepAll K o H vs ds := by
 cases h with
 | tup a vs ds h1 h2 h3 => exact ⟨a, vs, rfl, h1, h2, h3⟩
theorem Rep.tupW {v : V} {ds : List D} (h : Rep K o H v (.tuple ds)) : ∃ a vs, v = .ref a ∧ SqT K H a vs ∧ vs.length ≤ sizeLine ∧ RepAll K o H vs ds := by
 cases h with
 | tup a vs ds h1 h2 h3 => exact ⟨a, vs, rfl, h1, h2, h3⟩
mutual
def A0 : D → Bool
 | .list xs => C4 xs
 | .tuple xs => C4 xs
 | .dict _ => false
 | .none => true
 | .bool _ => true
 | .int _ => true
 | .str _ => true
def C4 : List D → Bool
 | [] => true
 | x :: xs => A0 x && C4 xs
end
mutual
theorem Rep.dp : ∀ {v : V} {d : D}, Rep K o H v d → A0 d = true → Dp K H v d
 | _, _, .non, _ => .non
 | _, _, .bl b, _ => .bl b
 | _, _, .int i, _ => .int i
 | _, _, .str x h1 h2, _ => .str x
 | _, _, .lst a vs ds h1 h2 h3 h4, n => .lst (.of h1) (RepAll.dp h4 n)
 | _, _, .tup a vs ds h1 h2 h3, n => .tup h1 (RepAll.dp h3 n)
 | _, _, .dct tk a ks vs ds kvs h1 h2 h3 h5 h4 e, n => nomatch n
theorem RepAll.dp : ∀ {vs : List V} {ds : List D}, RepAll K o H vs ds → C4 ds = true → DpAll K H vs ds
 | _, _, .nil, _ => .nil
 | _, _, .cons v d vs ds h1 h2, n => by
  rw [C4, Bool.and_eq_true] at n
  exact .cons (Rep.dp h1 n.1) (RepAll.dp h2 n.2)
end
mutual
theorem Rep.can : ∀ {v : V} {d : D}, Rep K o H v d → A0 d = true → PyData.canLay0 d = true
 | _, _, .non, _ => rfl
 | _, _, .bl b, _ => rfl
 | _, _, .int i, _ => rfl
 | _, _, .str x h1 h2, _ => h1
 | _, _, .lst a vs ds h1 h2 h3 h4, n => RepAll.can h4 n
 | _, _, .tup a vs ds h1 h2 h3, n => RepAll.can h3 n
 | _, _, .dct tk a ks vs ds kvs h1 h2 h3 h5 h4 e, n => nomatch n
theorem RepAll.can : ∀ {vs : List V} {ds : List D}, RepAll K o H vs ds → C4 ds = true → PyData.canLayAll0 ds = true
 | _, _, .nil, _ => rfl
 | _, _, .cons v d vs ds h1 h2, n => by
  rw [C4, Bool.and_eq_true] at n
  show (PyData.canLay0 d && PyData.canLayAll0 ds) = true
  rw [Rep.can h1 n.1, RepAll.can h2 n.2]
  rfl
end
end
end BV
namespace BV
open PySem PySem.Spec PyProof.Rows L2 LamX

section
variable {X : Cx} {pins : List (Addr × Obj)} {σ : L2.St} {H : Hp} {s : Shared}
end
section
variable {prog : Program} {w : World} {A : Around} {s : Shared} {mg mb : Str → Option Value}
end
section
variable {X : Cx} {T : List V}
end
end BV
namespace BV
open PySem L2

structure Exc where
 cls : Str
 fld : Option (Str × D)
structure DskV where
 job : Option D
 lines : Option D
 ahead : Option (List D)
 undone : Option (List D)
inductive T where
 | val (d : D) | own (xs : List D) | own2 (xss : List (List D)) | ownd (q : Bool) (kvs : List (D × D)) | cel (n : Nat) | scr (ns : List Int) | exn (a C : Addr) (d : Option Addr) (e : Exc) | tree (d : D) | rof (b : Bool) (v : DskV) | recs (b : Bool) (ns : List Nat)
inductive Ce where
 | dead | lst (xs : List D) | dct (q : Bool) (kvs : List (D × D)) | tab | rcd (b : Bool) (v : DskV)
abbrev Sto := List Ce
abbrev En := List (Option T)
inductive R (α : Type) where
 | ok (a : α) (S : Sto) | exc (e : Exc) (S : Sto) | bad
inductive Fl where
 | nx (ρ : En) (S : Sto) | bk (ρ : En) (S : Sto) | ct (ρ : En) (S : Sto) | rt (t : T) (S : Sto) | ex (e : Exc) (ρ : En) (S : Sto) | bad
abbrev SE := En → Sto → R T
abbrev SS := En → Sto → Fl
abbrev Fn := List T → Sto → R T
def asD : T → Option D
 | .val d => some d
 | .own xs => some (.list xs)
 | .own2 xss => some (.list (xss.map PyData.list))
 | .ownd q kvs => some (.dict (mkD q kvs))
 | .cel _ => none
 | .scr _ => none
 | .exn _ _ _ _ => none
 | .tree d => some d
 | .rof _ _ => none
 | .recs _ _ => none
def asA : T → T
 | .val d => .val d
 | .own xs => .val (.list xs)
 | .own2 xss => .val (.list (xss.map PyData.list))
 | .ownd q kvs => .val (.dict (mkD q kvs))
 | .cel n => .cel n
 | .scr ns => .scr ns
 | .exn a C d e => .exn a C d e
 | .tree d => .val d
 | .rof b v => .rof b v
 | .recs _ ns => .recs false ns
def R.d (r : R T) (k : D → Sto → R T) : R T := match r with
 | .ok t S => (match asD t with | some d => k d S | none => .bad)
 | .exc e S => .exc e S
 | .bad => .bad
def R.t (r : R T) (k : T → Sto → R T) : R T := match r with
 | .ok t S => k t S
 | .exc e S => .exc e S
 | .bad => .bad
theorem R.d_okn {t : T} {S : Sto} {k : D → Sto → R T} (h : asD t = none) : R.d (.ok t S) k = .bad := by unfold R.d; simp only [h]
theorem R.d_oks {t : T} {S : Sto} {k : D → Sto → R T} {d : D} (h : asD t = some d) : R.d (.ok t S) k = k d S := by unfold R.d; simp only [h]
abbrev Cs := List Addr
def vE : D → Option V
 | .none => some .non
 | .int i => some (.int i)
 | _ => none
def FldR (H : Hp) (d : Option Addr) (e : Exc) : Prop := match e.fld with
 | none => d = none
 | some (f, dv) => ∃ dd v, d = some dd ∧ vE dv = some v ∧ H dd = some (.xd [(f, v)])
theorem FldR.mono {H H' : Hp} {d : Option Addr} {e : Exc} (k : ∀ a fs, H a = some (.xd fs) → H' a = some (.xd fs)) (r : FldR H d e) : FldR H' d e := by
 unfold FldR at *
 split at r
 ·exact r
 ·obtain ⟨dd, v, e1, e2, e3⟩ := r
  exact ⟨dd, v, e1, e2, k _ _ e3⟩
theorem FldR.kept {o o' : Gh} {H H' : Hp} {d : Option Addr} {e : Exc} (tr : Trk o H) (k : Kept o H o' H') (r : FldR H d e) : FldR H' d e := r.mono fun a fs h => (k a _ h (tr.free h (fun z => z))).1
mutual
inductive RepW (K : PySem.W.Frag) (o : Gh) (w : Ow) (H : Hp) : V → D → List Addr → Prop
 | non : RepW K o w H .non .none []
 | bl (b : Bool) : RepW K o w H (.bl b) (.bool b) []
 | int (i : Int) : RepW K o w H (.int i) (.int i) []
 | str (x : Str) : PyData.strOk x = true → x.length ≤ sizeLine → RepW K o w H (.str x) (.str x) []
 | lst (a : Addr) (vs : List V) (ds : List D) (as : List Addr) : o a = some w → H a = some (.lst vs) → vs.length ≤ sizeLine → RepWs K o w H vs ds as → RepW K o w H (.ref a) (.list ds) (a :: as)
 | tup (a : Addr) (vs : List V) (ds : List D) (as : List Addr) : SqT K H a vs → vs.length ≤ sizeLine → RepWs K o w H vs ds as → RepW K o w H (.ref a) (.tuple ds) as
inductive RepWs (K : PySem.W.Frag) (o : Gh) (w : Ow) (H : Hp) : List V → List D → List Addr → Prop
 | nil : RepWs K o w H [] [] []
 | cons (v : V) (d : D) (vs : List V) (ds : List D) (as bs : List Addr) : RepW K o w H v d as → RepWs K o w H vs ds bs → RepWs K o w H (v :: vs) (d :: ds) (as ++ bs)
end
section
variable {K : PySem.W.Frag} {o o' : Gh} {H H' : Hp} {w w' : Ow}
mutual
theorem RepW.move (hl : ∀ a u, H a = some u → o a = some w → H' a = some u ∧ o' a = some w') (ht : ∀ a vs, SqT K H a vs → SqT K H' a vs) : ∀ {v : V} {d : D} {as : List Addr}, RepW K o w H v d as → RepW K o' w' H' v d as
 | _, _, _, .non => .non
 | _, _, _, .bl b => .bl b
 | _, _, _, .int i => .int i
 | _, _, _, .str x h1 h2 => .str x h1 h2
 | _, _, _, .lst a vs ds as h1 h2 h3 h4 => .lst a vs ds as (hl a _ h2 h1).2 (hl a _ h2 h1).1 h3 (RepWs.move hl ht h4)
 | _, _, _, .tup a vs ds as h1 h2 h3 => .tup a vs ds as (ht a _ h1) h2 (RepWs.move hl ht h3)
theorem RepWs.move (hl : ∀ a u, H a = some u → o a = some w → H' a = some u ∧ o' a = some w') (ht : ∀ a vs, SqT K H a vs → SqT K H' a vs) : ∀ {vs : List V} {ds : List D} {as : List Addr}, RepWs K o w H vs ds as → RepWs K o' w' H' vs ds as
 | _, _, _, .nil => .nil
 | _, _, _, .cons v d vs ds as bs h1 h2 => .cons v d vs ds as bs (RepW.move hl ht h1) (RepWs.move hl ht h2)
end
mutual
theorem RepW.rep (hn : ∀ a, o a = some w → o' a = none) : ∀ {v : V} {d : D} {as : List Addr}, RepW K o w H v d as → Rep K o' H v d
 | _, _, _, .non => .non
 | _, _, _, .bl b => .bl b
 | _, _, _, .int i => .int i
 | _, _, _, .str x h1 h2 => .str x h1 h2
 | _, _, _, .lst a vs ds as h1 h2 h3 h4 => .lst a vs ds h2 (hn a h1) h3 (RepWs.rep hn h4)
 | _, _, _, .tup a vs ds as h1 h2 h3 => .tup a vs ds h1 h2 (RepWs.rep hn h3)
theorem RepWs.rep (hn : ∀ a, o a = some w → o' a = none) : ∀ {vs : List V} {ds : List D} {as : List Addr}, RepWs K o w H vs ds as → RepAll K o' H vs ds
 | _, _, _, .nil => .nil
 | _, _, _, .cons v d vs ds as bs h1 h2 => .cons v d vs ds (RepW.rep hn h1) (RepWs.rep hn h2)
end
end
def recNames : List Str := ["job", "lines", "ahead", "undone"]
def FdR (K : PySem.W.Frag) (o : Gh) (H : Hp) (u : Option V) : Option D → Prop
 | none => u = none
 | some d => ∃ v, u = some v ∧ Rep K o H v d
def FlR (K : PySem.W.Frag) (o : Gh) (H : Hp) (w : Ow) (u : Option V) : Option (List D) → Prop
 | none => u = none
 | some xs => ∃ b vs, u = some (.ref b) ∧ o b = some w ∧ H b = some (.lst vs) ∧ vs.length ≤ sizeLine ∧ RepAll K o H vs xs
structure RecR (K : PySem.W.Frag) (o : Gh) (H : Hp) (w : Ow) (fv : Str → Option V) (v : DskV) : Prop where
 job : FdR K o H (fv "job") v.job
 lines : FdR K o H (fv "lines") v.lines
 ahead : FlR K o H w (fv "ahead") v.ahead
 undone : FlR K o H w (fv "undone") v.undone
 two : ∀ b, fv "ahead" = some (.ref b) → fv "undone" ≠ some (.ref b)
def RecB (K : PySem.W.Frag) (H : Hp) (a : Addr) (fv : Str → Option V) : Bool → Prop
 | false => ∃ dx fvs, H a = some (.ins (He.ga K "Desk") dx fvs) ∧ (∀ f, fv f = fvs.lookup f) ∧ fvs.length ≤ (recNames.filter fun f => (fv f).isSome).length
 | true => ∃ kvs : List (Key × V), H a = some (.dK kvs) ∧ (∀ f, fv f = valV kvs (.inr f)) ∧ kvs.length ≤ (recNames.filter fun f => (fv f).isSome).length
def RcsR (o : Gh) (c : Cs) (H : Hp) (w : Ow) (v : V) (b : Bool) (ns : List Nat) : Prop := ∃ (a : Addr) (as : List Addr), v = .ref a ∧ (if b = true then o a = some w else o a = none) ∧ H a = some (.lst (as.map V.ref)) ∧ as.length ≤ sizeLine ∧ as.length = ns.length ∧ ∀ (i n x : Nat), ns[i]? = some n → as[i]? = some x → c[n]? = some x
theorem RcsR.move {o o' : Gh} {c c' : Cs} {H H' : Hp} {w w' : Ow} {v : V} {b : Bool} {ns : List Nat} (h1 : ∀ a u, H a = some u → o a = some w → H' a = some u ∧ o' a = some w') (h0 : Kept o H o' H') (hc : ∀ (n x : Nat), c[n]? = some x → c'[n]? = some x) (r : RcsR o c H w v b ns) : RcsR o' c' H' w' v b ns := by
 obtain ⟨a, as, e, q, h, z, l, f⟩ := r
 cases b with
 | true =>
  have q' : o a = some w := q
  exact ⟨a, as, e, (h1 a _ h q').2, (h1 a _ h q').1, z, l, fun i n x e1 e2 => hc _ _ (f i n x e1 e2)⟩
 | false =>
  have q' : o a = none := q
  exact ⟨a, as, e, (h0 a _ h q').2, (h0 a _ h q').1, z, l, fun i n x e1 e2 => hc _ _ (f i n x e1 e2)⟩
theorem RcsR.free {o o' : Gh} {c : Cs} {H : Hp} {w w' : Ow} {v : V} {b : Bool} {ns : List Nat} (un : ∀ a, o a = some w → o' a = none) (h0 : Kept o H o' H) (r : RcsR o c H w v b ns) : RcsR o' c H w' v false ns := by
 obtain ⟨a, as, e, q, h, z, l, f⟩ := r
 cases b with
 | true => exact ⟨a, as, e, un a q, h, z, l, f⟩
 | false => exact ⟨a, as, e, (h0 a _ h q).2, h, z, l, f⟩
def RepT (K : PySem.W.Frag) (o : Gh) (c : Cs) (H : Hp) (w : Ow) (v : V) : T → Prop
 | .val d => Rep K o H v d
 | .own xs => ∃ a vs, v = .ref a ∧ o a = some w ∧ H a = some (.lst vs) ∧ vs.length ≤ sizeLine ∧ RepAll K o H vs xs
 | .own2 xss => ∃ (a : Addr) (as : List Addr), v = .ref a ∧ o a = some w ∧ H a = some (.lst (as.map V.ref)) ∧ (a :: as).Nodup ∧ as.length ≤ sizeLine ∧ as.length = xss.length ∧
   ∀ (i : Nat) (b : Addr) (xs : List D), as[i]? = some b → xss[i]? = some xs → o b = some w ∧ ∃ vs, H b = some (.lst vs) ∧ vs.length ≤ sizeLine ∧ RepAll K o H vs xs
 | .ownd q kvs => ∃ a ks vs ds, v = .ref a ∧ o a = some w ∧ DAtW K q H a ks vs ∧ vs.length ≤ sizeLine ∧ ks.length = vs.length ∧ RepAll K o H vs ds ∧ kvs = ks.zip ds
 | .cel n => ∃ a, c[n]? = some a ∧ v = .ref a
 | .scr ns => ∃ a, v = .ref a ∧ ns.length ≤ sizeLine ∧ ((∃ ob, H a = some (.frz ob (.lst (ns.map V.int)))) ∨ (H a = some (.lst (ns.map V.int)) ∧ o a = none) ∨
   ∃ (ob : Obj) (its : Array Value) (n : Nat), K.lookup a = some ob ∧ ob.cls = .type "list" ∧ ob.dict = none ∧ ob.data = .seq its n ∧ its.size ≤ sizeLine ∧ Vals (ns.map V.int) its.toList)
 | .exn a C d e => v = .ref a ∧ PySem.W.nsIn K mainGlobals e.cls = some (some (.ref C)) ∧ FldR H d e
 | .tree d => ∃ as, RepW K o w H v d as ∧ as.Nodup
 | .rof b u => ∃ (a : Addr) (fv : Str → Option V), v = .ref a ∧ o a = some .seen ∧ RecB K H a fv b ∧ (∀ f, f ∉ recNames → fv f = none) ∧ RecR K o H .seen fv u
 | .recs b ns => RcsR o c H w v b ns
def c4N (K : PySem.W.Frag) : Addr := (He.cT K ("named", none)).2
def c40 : Str := "named.<locals>.<lambda>"
def CellR (K : PySem.W.Frag) (o : Gh) (H : Hp) (n : Nat) (a : Addr) : Ce → Prop
 | .dead => True
 | .lst xs => o a = some (.cell n) ∧ ∃ vs, H a = some (.lst vs) ∧ vs.length ≤ sizeLine ∧ RepAll K o H vs xs
 | .dct q kvs => o a = some (.cell n) ∧ ∃ ks vs ds, DAtW K q H a ks vs ∧ vs.length ≤ sizeLine ∧ ks.length = vs.length ∧ RepAll K o H vs ds ∧ kvs = ks.zip ds
 | .tab => a = c4N K ∧ o a = some (.cell n) ∧ ∃ ps : Array Value, H a = some (.tbl ps) ∧ TriplesOk ps.toList ∧ ∀ (pos : Pos) (cv : Value), codeAmong pos ps.toList = some cv → ∃ b, cv = .ref b ∧ H b = some (LamX.CodeO b c40) ∧ o b = some (.cell n)
 | .rcd b v => o a = some (.cell n) ∧ ∃ fv : Str → Option V, RecB K H a fv b ∧ (∀ f, f ∉ recNames → fv f = none) ∧ RecR K o H (.cell n) fv v
structure CS (K : PySem.W.Frag) (o : Gh) (c : Cs) (S : Sto) (H : Hp) : Prop where
 clen : c.length = S.length
 cell : ∀ n a k, c[n]? = some a → S[n]? = some k → CellR K o H n a k
 trk : Trk o H
structure RS (K : PySem.W.Frag) (o : Gh) (c : Cs) (ρ : En) (S : Sto) (σ : L2.St) (H : Hp) : Prop where
 len : ρ.length = σ.length
 slot : ∀ i t, ρ[i]? = some (some t) → ∃ v, σ[i]? = some (some v) ∧ RepT K o c H (.slot i) v t
 cs : CS K o c S H
def NT (o : Gh) : Prop := ∀ a, o a ≠ some .tmp
def d3 : Ow → Prop
 | .cell _ => True
 | _ => False
def B4 : Ow → Prop
 | .prot => False
 | .seen => False
 | _ => True
structure Step (vol : Ow → Prop) (o : Gh) (c : Cs) (H : Hp) (o' : Gh) (c' : Cs) (H' : Hp) : Prop where
 keep : ∀ a u, H a = some u → (∀ w, o a = some w → ¬ vol w) → H' a = some u
 own : ∀ a w, o a = some w → ¬ vol w → o' a = some w
 new : ∀ a, o a = none → o' a ≠ none → H a = none
 pre : c <+: c'
section
variable {K : PySem.W.Frag} {o o1 o2 o' : Gh} {c c1 c2 c' : Cs} {H H1 H2 H' : Hp} {vol : Ow → Prop} {ρ : En} {S : Sto} {σ : L2.St} {v : V} {t : T} {w : Ow}
theorem Step.refl : Step vol o c H o c H := ⟨fun _ _ h _ => h, fun _ _ h _ => h, fun _ h h' => absurd h h', List.prefix_refl c⟩
theorem Step.trans (a : Step vol o c H o1 c1 H1) (b : Step vol o1 c1 H1 o2 c2 H2) : Step vol o c H o2 c2 H2 where
 keep := fun x u e n => by
  refine b.keep x u (a.keep x u e n) fun w hw hv => ?_
  cases q : o x with
  | none =>
   have := a.new x q (by rw [hw]; simp)
   rw [this] at e; cases e
  | some w' =>
   have h' := a.own x w' q (n w' q)
   rw [hw] at h'; cases h'
   exact n w q hv
 own := fun x w e n => b.own x w (a.own x w e n) n
 new := fun x e n => by
  cases q : o1 x with
  | none =>
   have h2 := b.new x q n
   cases r : H x with
   | none => rfl
   | some u =>
    have := a.keep x u r (fun w hw => by rw [e] at hw; cases hw)
    rw [h2] at this; cases this
  | some w' => exact a.new x e (by rw [q]; simp)
 pre := a.pre.trans b.pre
theorem Step.weak (a : Step d3 o c H o1 c1 H1) : Step B4 o c H o1 c1 H1 where
 keep := fun x u e n => a.keep x u e fun w hw hv => n w hw (by cases w <;> first | exact trivial | exact hv.elim)
 own := fun x w e n => a.own x w e fun hv => n (by cases w <;> first | exact trivial | exact hv.elim)
 new := a.new
 pre := a.pre
theorem Step.kept (a : Step vol o c H o1 c1 H1) : Kept o H o1 H1 := fun x u e n => by
 have h1 := a.keep x u e (fun w hw => by rw [n] at hw; cases hw)
 refine ⟨h1, ?_⟩
 cases q : o1 x with
 | none => rfl
 | some w' =>
  have := a.new x n (by rw [q]; simp)
  rw [this] at e; cases e
theorem a06 {c c' : Cs} (h : c <+: c') {n : Nat} {a : Addr} (e : c[n]? = some a) : c'[n]? = some a := by
 obtain ⟨r, rfl⟩ := h
 have hl := (List.getElem?_eq_some_iff.mp e).1
 rw [List.getElem?_append_left hl]
 exact e
theorem Rep.step (tr : Trk o H) (a : Step vol o c H o1 c1 H1) {d : D} (r : Rep K o H v d) : Rep K o1 H1 v d := r.kept tr a.kept
theorem RepAll.step (tr : Trk o H) (a : Step vol o c H o1 c1 H1) {vs : List V} {ds : List D} (r : RepAll K o H vs ds) : RepAll K o1 H1 vs ds := r.kept tr a.kept
theorem FdR.moved {o' : Gh} {H' : Hp} {u : Option V} {d : Option D} (tr : Trk o H) (k : Kept o H o' H') (r : FdR K o H u d) : FdR K o' H' u d := by
 cases d with
 | none => exact r
 | some d =>
  obtain ⟨v, e, q⟩ := r
  exact ⟨v, e, q.kept tr k⟩
theorem FlR.moved {o' : Gh} {H' : Hp} {w w' : Ow} {u : Option V} {d : Option (List D)} (tr : Trk o H) (k : Kept o H o' H') (hc : ∀ b, o b = some w → o' b = some w' ∧ ∀ x, H b = some x → H' b = some x) (r : FlR K o H w u d) : FlR K o' H' w' u d := by
 cases d with
 | none => exact r
 | some d =>
  obtain ⟨b, vs, e, q1, q2, q3, q4⟩ := r
  exact ⟨b, vs, e, (hc b q1).1, (hc b q1).2 _ q2, q3, q4.kept tr k⟩
theorem RecR.movedH {o' : Gh} {H' : Hp} {w w' : Ow} {fv : Str → Option V} {v : DskV} (tr : Trk o H) (k : Kept o H o' H') (hc : ∀ b, o b = some w → o' b = some w' ∧ ∀ x, H b = some x → H' b = some x) (r : RecR K o H w fv v) : RecR K o' H' w' fv v :=
 ⟨r.job.moved tr k, r.lines.moved tr k, r.ahead.moved tr k hc, r.undone.moved tr k hc, r.two⟩
theorem RecR.moved {o' : Gh} {w w' : Ow} {fv : Str → Option V} {v : DskV} (tr : Trk o H) (k : Kept o H o' H) (hc : ∀ b, o b = some w → o' b = some w') (r : RecR K o H w fv v) : RecR K o' H w' fv v :=
 r.movedH tr k fun b q => ⟨hc b q, fun _ z => z⟩
theorem RecB.moved {H' : Hp} {a : Addr} {fv : Str → Option V} {b : Bool} (hk : ∀ x, H a = some x → H' a = some x) (r : RecB K H a fv b) : RecB K H' a fv b := by
 cases b with
 | false =>
  obtain ⟨dx, fvs, e, q⟩ := r
  exact ⟨dx, fvs, hk _ e, q⟩
 | true =>
  obtain ⟨kvs, e, q⟩ := r
  exact ⟨kvs, hk _ e, q⟩
theorem RepT.step (tr : Trk o H) (a : Step vol o c H o1 c1 H1) (hw : ¬ vol w) (r : RepT K o c H w v t) (hp : ¬ vol .seen := by exact fun z => z) : RepT K o1 c1 H1 w v t := by
 have kp : ∀ x u, H x = some u → o x = some w → H1 x = some u := fun x u e q => a.keep x u e fun w' q' => by
  rw [q] at q'; cases q'; exact hw
 cases t with
 | val d => exact Rep.step tr a r
 | own xs =>
  obtain ⟨x, vs, e, q, h, z, ra⟩ := r
  exact ⟨x, vs, e, a.own _ _ q hw, kp _ _ h q, z, ra.step tr a⟩
 | own2 xss =>
  obtain ⟨x, as, e, q, h, nd, z, le, f⟩ := r
  refine ⟨x, as, e, a.own _ _ q hw, kp _ _ h q, nd, z, le, fun i b xs e1 e2 => ?_⟩
  obtain ⟨q', vs, h', z', ra⟩ := f i b xs e1 e2
  exact ⟨a.own _ _ q' hw, vs, kp _ _ h' q', z', ra.step tr a⟩
 | ownd tk kvs =>
  obtain ⟨x, ks, vs, ds, e, q, h, z, z2, ra, e'⟩ := r
  exact ⟨x, ks, vs, ds, e, a.own _ _ q hw, h.kept (fun u hu => kp _ _ hu q) (fun b us zz => SqT.kept tr a.kept zz), z, z2, ra.step tr a, e'⟩
 | cel n =>
  obtain ⟨x, e, q⟩ := r
  exact ⟨x, a06 a.pre e, q⟩
 | scr ns =>
  obtain ⟨x, e, z, h⟩ := r
  refine ⟨x, e, z, ?_⟩
  rcases h with ⟨ob, h⟩ | ⟨h, n⟩ | h
  ·exact .inl ⟨ob, (a.kept _ _ h (tr.free h (fun z => z))).1⟩
  ·exact .inr (.inl (a.kept _ _ h n))
  ·exact .inr (.inr h)
 | exn x C d e => exact ⟨r.1, r.2.1, r.2.2.kept tr a.kept⟩
 | tree d =>
  obtain ⟨as, r, nd⟩ := r
  exact ⟨as, r.move (fun x u e q => ⟨kp _ _ e q, a.own _ _ q hw⟩) (fun b us z => SqT.kept tr a.kept z), nd⟩
 | rof b u =>
  obtain ⟨x, fv, e, q, h1, h2, h3⟩ := r
  have kq : ∀ b, o b = some .seen → o1 b = some .seen ∧ ∀ x, H b = some x → H1 b = some x := fun b e => ⟨a.own _ _ e hp, fun x hx => a.keep _ x hx fun w' q' => by
   rw [e] at q'; cases q'; exact hp⟩
  exact ⟨x, fv, e, (kq _ q).1, h1.moved (kq _ q).2, h2, h3.movedH tr a.kept kq⟩
 | recs b ns => exact RcsR.move (fun x u e q => ⟨kp _ _ e q, a.own _ _ q hw⟩) a.kept (fun _ _ e => a06 a.pre e) r
theorem RS.step {S' : Sto} (r : RS K o c ρ S σ H) (a : Step d3 o c H o1 c1 H1) (q : CS K o1 c1 S' H1) : RS K o1 c1 ρ S' σ H1 :=
 ⟨r.len, fun i t e => by
  obtain ⟨v, e1, e2⟩ := r.slot i t e
  exact ⟨v, e1, e2.step r.cs.trk a (fun z => z)⟩, q⟩

def s9 (p : Ow → Bool) (o : Gh) : Gh := fun a => match o a with
 | some w => if p w then none else some w
 | none => none
theorem m9 {p : Ow → Bool} {a : Addr} (h : o a = none) : s9 p o a = none := by unfold s9; rw [h]
theorem f6 {p : Ow → Bool} {a : Addr} {w : Ow} (h : o a = some w) (n : p w = false) : s9 p o a = some w := by unfold s9; rw [h]; simp [n]
theorem F4 {p : Ow → Bool} {a : Addr} {w : Ow} (h : s9 p o a = some w) : o a = some w ∧ p w = false := by
 unfold s9 at h
 split at h
 ·rename_i w' e
  split at h
  ·cases h
  ·cases h
   exact ⟨e, by simpa using ‹¬ p _ = true›⟩
 ·cases h
theorem P7 {p : Ow → Bool} {a : Addr} (h : s9 p o a ≠ none) : o a ≠ none := by
 intro e
 exact h (m9 e)
theorem j9 {p : Ow → Bool} : Kept o H (s9 p o) H := fun a u e n => ⟨e, m9 n⟩
theorem Trk.drop {p : Ow → Bool} (tr : Trk o H) : Trk (s9 p o) H := fun a h => tr a (P7 h)
theorem RepT.drop {p : Ow → Bool} (tr : Trk o H) (n : p w = false) (r : RepT K o c H w v t) (hp : p .seen = false := by rfl) : RepT K (s9 p o) c H w v t := by
 cases t with
 | val d => exact Rep.kept tr j9 r
 | own xs =>
  obtain ⟨x, vs, e, q, h, z, ra⟩ := r
  exact ⟨x, vs, e, f6 q n, h, z, ra.kept tr j9⟩
 | own2 xss =>
  obtain ⟨x, as, e, q, h, nd, z, le, f⟩ := r
  refine ⟨x, as, e, f6 q n, h, nd, z, le, fun i b xs e1 e2 => ?_⟩
  obtain ⟨q', vs, h', z', ra⟩ := f i b xs e1 e2
  exact ⟨f6 q' n, vs, h', z', ra.kept tr j9⟩
 | ownd tk kvs =>
  obtain ⟨x, ks, vs, ds, e, q, h, z, z2, ra, e'⟩ := r
  exact ⟨x, ks, vs, ds, e, f6 q n, h, z, z2, ra.kept tr j9, e'⟩
 | cel n => exact r
 | scr ns =>
  obtain ⟨x, e, z, h⟩ := r
  refine ⟨x, e, z, ?_⟩
  rcases h with h | ⟨h, n⟩ | h
  ·exact .inl h
  ·exact .inr (.inl ⟨h, m9 n⟩)
  ·exact .inr (.inr h)
 | exn x C d e => exact r
 | tree d =>
  obtain ⟨as, r, nd⟩ := r
  exact ⟨as, r.move (fun x u e q => ⟨e, f6 q n⟩) (fun _ _ z => z), nd⟩
 | rof b u =>
  obtain ⟨x, fv, e, q, h1, h2, h3⟩ := r
  exact ⟨x, fv, e, f6 q hp, h1, h2, h3.moved tr j9 fun b e => f6 e hp⟩
 | recs b ns => exact RcsR.move (fun x u e q => ⟨e, f6 q n⟩) j9 (fun _ _ e => e) r
theorem CS.drop {p : Ow → Bool} (n : ∀ i, p (.cell i) = false) (r : CS K o c S H) : CS K (s9 p o) c S H :=
 ⟨r.clen, fun i a k e1 e2 => by
  have q := r.cell i a k e1 e2
  cases k with
  | dead => trivial
  | lst xs =>
   obtain ⟨q1, vs, q2, q3, q4⟩ := q
   exact ⟨f6 q1 (n i), vs, q2, q3, q4.kept r.trk j9⟩
  | dct tk kvs =>
   obtain ⟨q1, ks, vs, ds, q2, q3, q5, q4, q6⟩ := q
   exact ⟨f6 q1 (n i), ks, vs, ds, q2, q3, q5, q4.kept r.trk j9, q6⟩
  | tab =>
   obtain ⟨q0, q1, ps, q2, q3, q4⟩ := q
   exact ⟨q0, f6 q1 (n i), ps, q2, q3, fun pos cv e => by
    obtain ⟨b, e1, e2, e3⟩ := q4 pos cv e
    exact ⟨b, e1, e2, f6 e3 (n i)⟩⟩
  | rcd b v =>
   obtain ⟨q0, fv, q1, q2, q3⟩ := q
   exact ⟨f6 q0 (n i), fv, q1, q2, q3.moved r.trk j9 fun b q => f6 q (n i)⟩, r.trk.drop⟩
def b0S : Ow → Bool
 | .tmp => true
 | _ => false
abbrev unT (o : Gh) : Gh := s9 b0S o
theorem C2 : NT (unT o) := fun a h => by
 have := (F4 h).2
 simp [b0S] at this
theorem RS.untmp (r : RS K o c ρ S σ H) : RS K (unT o) c ρ S σ H :=
 ⟨r.len, fun i t e => by
  obtain ⟨v, e1, e2⟩ := r.slot i t e
  exact ⟨v, e1, e2.drop r.cs.trk rfl⟩, r.cs.drop fun _ => rfl⟩
theorem Step.untmp (nt : NT o) (a : Step vol o c H o1 c1 H1) : Step vol o c H (unT o1) c1 H1 where
 keep := a.keep
 own := fun x w e n => f6 (a.own x w e n) (by cases w <;> first | rfl | exact absurd e (nt x))
 new := fun x e n => a.new x e (P7 n)
 pre := a.pre
theorem RepT.toD {d : D} (tr : Trk o H) (r : RepT K o c H .tmp v t) (e : asD t = some d) : Rep K (unT o) H v d := by
 have un : ∀ a, o a = some .tmp → unT o a = none := fun a h => by unfold unT s9; rw [h]; rfl
 cases t with
 | val d' => cases e; exact Rep.kept tr j9 r
 | own xs =>
  cases e
  obtain ⟨x, vs, rfl, q, h, z, ra⟩ := r
  exact .lst x vs _ h (un _ q) z (ra.kept tr j9)
 | own2 xss =>
  cases e
  obtain ⟨x, as, rfl, q, h, nd, z, le, f⟩ := r
  refine .lst x _ _ h (un _ q) (by rw [List.length_map]; exact z) ?_
  clear h nd z q
  induction as generalizing xss with
  | nil =>
   cases xss with
   | nil => exact .nil
   | cons _ _ => simp at le
  | cons b as ih =>
   cases xss with
   | nil => simp at le
   | cons xs xss =>
    obtain ⟨q', vs, h', z', ra⟩ := f 0 b xs rfl rfl
    refine .cons _ _ _ _ (.lst b vs xs h' (un _ q') z' (ra.kept tr j9)) (ih xss (by simpa using le) fun i b' xs' e1 e2 => f (i + 1) b' xs' (by simpa using e1) (by simpa using e2))
 | ownd tk kvs =>
  cases e
  obtain ⟨x, ks, vs, ds, rfl, q, h, z, z2, ra, rfl⟩ := r
  exact .dct tk x ks vs ds _ h.r (un _ q) z z2 (ra.kept tr j9) rfl
 | cel n => cases e
 | scr ns => cases e
 | exn _ _ _ _ => cases e
 | tree d' =>
  cases e
  obtain ⟨as, r, nd⟩ := r
  exact r.rep un
 | rof _ _ => cases e
 | recs _ _ => cases e
theorem RepT.toA (tr : Trk o H) (r : RepT K o c H .tmp v t) : RepT K (unT o) c H w v (asA t) := by
 cases t with
 | val d' => exact RepT.toD (t := .val d') tr r rfl
 | own xs => exact RepT.toD (t := .own xs) tr r rfl
 | own2 xss => exact RepT.toD (t := .own2 xss) tr r rfl
 | ownd q kvs => exact RepT.toD (t := .ownd q kvs) tr r rfl
 | cel n => exact r
 | scr ns => exact RepT.drop (c := c) (w := .prot) (t := .scr ns) tr rfl r
 | exn _ _ _ _ => exact r
 | tree d => exact RepT.toD (t := .tree d) tr r rfl
 | rof b u =>
  obtain ⟨x, fv, e, q, h1, h2, h3⟩ := r
  exact ⟨x, fv, e, f6 q rfl, h1, h2, h3.moved tr j9 fun b e => f6 e rfl⟩
 | recs b ns => exact RcsR.free (fun a h => by unfold unT s9; rw [h]; rfl) j9 r
end
end BV
namespace BV
open PySem L2

structure K5 where
 a : Addr
 C : Addr
 d : Option Addr
def Zg : Bool → Value → Option Addr → Obj → Prop
 | true => L2N.Zn
 | false => Zc
theorem Zg.zc {cn : Bool} {cls : Value} {d : Option Addr} {o : Obj} (h : Zg cn cls d o) : Zc cls d o := by
 cases cn with
 | true => exact L2N.Zn.zc h
 | false => exact h
def XEg (cn : Bool) (X : Cx) (W : WX) (u : Value) (t : Shared) : Prop :=
 ∃ (a : Addr) (B : Heap) (sI : Shared) (pins : List (Addr × Obj)) (σ : L2.St) (H : Hp) (cls : Value) (d : Option Addr), u = .ref a ∧ Inv X pins σ H sI ∧ (∀ b o, sI.heap.get? b = some o → b ∉ frs X.stack → B.get? b = some o) ∧
  sI.heap.UpToSlots t.heap ∧ Sky B X.stack a (Zg cn cls d) X.env.locals t.heap ∧ H a = none ∧ t.os = sI.os ∧ PyProof.Rows.AllBare t.gens ∧ W cls d σ H
def Tk (cn : Bool) (X : Cx) (W : WX) : Prop := ∀ u t, XEg cn X W u t → X.xe u t
abbrev CXg : Bool → Program → World → CXT
 | true, P, w => L2N.CX P w
 | false, P, w => L2.CX P w
theorem b6U {B : Heap} {l : List PySem.Env} {a : Addr} {Z Z' : Obj → Prop} {L : Addr} {h : Heap} (z : ∀ o, Z o → Z' o) (x : Sky B l a Z L h) : Sky B l a Z' L h := by
 have tz : ∀ {fl : Value}, HandSPX.TracedZ h B a Z fl → HandSPX.TracedZ h B a Z' fl := fun ⟨oe, vs, T, oT, ts, he, hz, r⟩ => ⟨oe, vs, T, oT, ts, he, z _ hz, r⟩
 rcases x with ⟨h1, h2, h3, oe, vs, h4, h5, r⟩ | ⟨h1, h2, h3, h4⟩ | ⟨h1, h2, h3, h4⟩
 ·exact .inl ⟨h1, h2, h3, oe, vs, h4, z _ h5, r⟩
 ·exact .inr (.inl ⟨h1, h2, h3, tz h4⟩)
 ·exact .inr (.inr ⟨h1, h2, h3, tz h4⟩)
theorem Tk.any {cn : Bool} {X : Cx} {W : WX} (t : Tk false X W) : Tk cn X W := fun u s ⟨a, B, sI, pins, σ, H, cls, d, e, I, nb, up, sky, na, os, ag, w⟩ =>
 t u s ⟨a, B, sI, pins, σ, H, cls, d, e, I, nb, up, b6U (fun _ z => z.zc) sky, na, os, ag, w⟩
theorem Tk.n {cn : Bool} {X : Cx} {W : WX} (t : Tk cn X W) : L2N.Takes X W := by
 cases cn with
 | true => exact t
 | false => exact t.any (cn := true)
theorem Tk.no {cn : Bool} {X : Cx} : Tk cn X (fun _ _ _ _ => False) := fun _ _ ⟨_, _, _, _, _, _, _, _, _, _, _, _, _, _, _, _, q⟩ => q.elim
theorem b1s {cn : Bool} {X : Cx} {W : WX} (tk : Tk cn X W) (σ : L2.St) : PassesAt (CXg cn X.prog X.w) X σ (WE W σ) := by
 cases cn with
 | true => exact L2N.passAt (show L2N.Takes X W from tk) σ
 | false => exact L2.passAt (show L2.Takes X W from tk) σ
def c0i (A : Around) (p : Addr × Obj) : Prop := A.handled = some (.ref p.1) ∧ ∃ vs : Array Value, p.2.data = .fields vs
structure Cc where
 P : Program
 w : World
 K : PySem.W.Frag
 mg : Str → Option Value
 base : Heap
 N : List Str
 sc : Scope
 fn : Str → Bool
 k : Nat
 top : Bool
 hot : Option K5
 cn : Bool
 raw : Bool
 cod : Option (Addr × Str)
abbrev Cc.blk (G : Cc) (scope : Scope) : Cc := { G with sc := relS scope G.sc, fn := fun x => scope.names.lookup x == some .cell, top := false, raw := false, cod := none }
structure Cc.Ok (G : Cc) (X : Cx) (W : WX) : Prop where
 P : X.prog = G.P
 w : X.w = G.w
 K : X.K = G.K
 mg : X.mg = G.mg
 base : X.base = G.base
 N : X.N = G.N
 sc : X.env.scope = G.sc
 fn : X.fn = G.fn
 calm : G.hot = none → X.calm = true
 room : L2H.RoomH G.k X.A
 tk : Tk G.cn X W
 po : PassesOwn (model X.prog X.w) X.A X.env X.xe
 hd : G.hot = none → X.A.handled = none
 top : G.top = true → X.stack = X.env :: X.outer ∧ X.env.frame = some X.env.locals
 held : ∀ h, G.hot = some h → ∃ oe : Obj, c0i X.A (h.a, oe) ∧ (h.a, oe) ∈ X.pn ∧ Zc (.ref h.C) h.d oe ∧ ∃ vs, oe.data = .fields vs
 pat : G.raw = true → ∀ hd : Option Value, PassesOwnAt (model X.prog X.w) (X.A.mark hd) X.A X.env X.xe
 cod : ∀ c q, G.cod = some (c, q) → X.env.code = .ref c ∧ X.env.qual = q
theorem Cc.Ok.units {G : Cc} {X : Cx} {W : WX} (k : G.Ok X W) : X.A.units + 64 < cLine := by have := k.room.un; omega
theorem Cc.Ok.room0 {G : Cc} {X : Cx} {W : WX} (k : G.Ok X W) (hc : G.hot = none) : Room G.k X.A := ⟨k.hd hc, k.room.dp, k.room.un⟩
def b3n (mg : Str → Option Value) (H : Hp) (cls : Value) (d : Option Addr) (e : Exc) : Prop :=
 ∃ C, cls = .ref C ∧ mg e.cls = some (.ref C) ∧ match e.fld with
  | none => d = none
  | some (f, dv) => ∃ dd v, d = some dd ∧ vE dv = some v ∧ H dd = some (.xd [(f, v)])
def PostE (G : Cc) (W : WX) (o : Gh) (c : Cs) (ρ : En) (σ : L2.St) (H : Hp) (r : R T) (Q : VK) : Prop := match r with
 | .ok t S' => ∀ v o' c' H', Step d3 o c H o' c' H' → RS G.K o' c' ρ S' σ H' → RepT G.K o' c' H' .tmp v t → Q v H'
 | .exc e S' => ∀ cls d o' c' H', Step d3 o c H o' c' H' → RS G.K o' c' ρ S' σ H' → NT o' → b3n G.mg H' cls d e → W cls d σ H'
 | .bad => False
def ER (G : Cc) (W : WX) (t : TE) (f : SE) : Prop := ∀ (σ : L2.St) (H : Hp) (ρ : En) (S : Sto) (o : Gh) (c : Cs) (Q : VK), NT o → RS G.K o c ρ S σ H → PostE G W o c ρ σ H (f ρ S) Q → t σ H Q
def EV (G : Cc) (e : Expr) (f : SE) : Prop := ∃ t : WX → TE, (∀ X W, G.Ok X W → PE X e (t W)) ∧ ∀ W, ER G W (t W) f
section
variable {G : Cc} {W : WX} {o o1 : Gh} {c c1 : Cs} {ρ : En} {σ : L2.St} {H H1 : Hp} {r : R T} {Q : VK} {e : Expr} {f g : SE} {t : TE}
theorem PostE.step (a : Step d3 o c H o1 c1 H1) (h : PostE G W o c ρ σ H r Q) : PostE G W o1 c1 ρ σ H1 r Q := by
 cases r with
 | ok t S' => exact fun v o' c' H' s => h v o' c' H' (a.trans s)
 | exc e S' => exact fun cls d o' c' H' s => h cls d o' c' H' (a.trans s)
 | bad => exact h
theorem ER.d (h : ER G W t f) {S : Sto} {k : D → Sto → R T} {Q Q0 : VK} (nt : NT o) (rs : RS G.K o c ρ S σ H) (p : PostE G W o c ρ σ H (R.d (f ρ S) k) Q0)
  (q : ∀ d S1 v o1 c1 H1, Step d3 o c H o1 c1 H1 → NT o1 → RS G.K o1 c1 ρ S1 σ H1 → Rep G.K o1 H1 v d → PostE G W o1 c1 ρ σ H1 (k d S1) Q0 → Q v H1) : t σ H Q := by
 refine h σ H ρ S o c Q nt rs ?_
 cases e : f ρ S with
 | ok t S1 =>
  rw [e] at p
  intro v o' c' H' s rs' r'
  cases e2 : asD t with
  | none => exact False.elim (by rw [R.d_okn e2] at p; exact p)
  | some d =>
   have p' : PostE G W o c ρ σ H (k d S1) Q0 := by rw [R.d_oks e2] at p; exact p
   have s' := s.untmp nt
   exact q d S1 v _ c' H' s' C2 rs'.untmp (r'.toD rs'.cs.trk e2) (p'.step s')
 | exc e S1 => rw [e] at p; exact p
 | bad => rw [e] at p; exact p
end

inductive RepU (K : PySem.W.Frag) (o : Gh) (H : Hp) : V → D → Prop
 | of (v : V) (d : D) : Rep K o H v d → RepU K o H v d
 | lst (a : Addr) (vs : List V) (ds : List D) : H a = some (.lst vs) → (∀ w, o a = some w → ¬ d3 w) → vs.length ≤ sizeLine → RepAll K o H vs ds → RepU K o H (.ref a) (.list ds)
 | dct (q : Bool) (a : Addr) (ks : List D) (vs : List V) (ds : List D) (kvs : List (D × D)) : DAt K q H a ks vs → (∀ w, o a = some w → ¬ d3 w) → vs.length ≤ sizeLine → ks.length = vs.length → RepAll K o H vs ds → kvs = mkD q (ks.zip ds) → RepU K o H (.ref a) (.dict kvs)
section
variable {K : PySem.W.Frag} {o o1 : Gh} {c c1 : Cs} {H H1 : Hp} {v : V} {d : D}
theorem RepU.step (tr : Trk o H) (s : Step d3 o c H o1 c1 H1) (r : RepU K o H v d) : RepU K o1 H1 v d := by
 have kk : ∀ a u, H a = some u → (∀ w, o a = some w → ¬ d3 w) → ∀ w, o1 a = some w → ¬ d3 w := fun a u e n w hw => by
  cases q : o a with
  | none =>
   have := s.new a q (by rw [hw]; simp)
   rw [this] at e; cases e
  | some w' =>
   have := s.own a w' q (n w' q)
   rw [hw] at this; cases this
   exact n w q
 cases r with
 | of v d r => exact .of _ _ (r.step tr s)
 | lst a vs ds h1 h2 h3 h4 => exact .lst a vs ds (s.keep a _ h1 h2) (kk a _ h1 h2) h3 (h4.step tr s)
 | dct tk a ks vs ds kvs h1 h2 h3 h5 h4 e =>
  obtain ⟨u, hu, _⟩ := h1.is
  exact .dct tk a ks vs ds kvs (h1.kept (fun u hu => s.keep a u hu h2) fun b us z => SqT.kept tr s.kept z) (kk a u hu h2) h3 h5 (h4.step tr s) e
theorem RepU.nonV (h : RepU K o H v .none) : v = .non := by cases h with | of _ _ h => exact h.nonV
theorem RepU.blV {b : Bool} (h : RepU K o H v (.bool b)) : v = .bl b := by cases h with | of _ _ h => exact h.blV
theorem RepU.intV {i : Int} (h : RepU K o H v (.int i)) : v = .int i := by cases h with | of _ _ h => exact h.intV
theorem RepU.strV {x : Str} (h : RepU K o H v (.str x)) : v = .str x ∧ PyData.strOk x = true ∧ x.length ≤ sizeLine := by cases h with | of _ _ h => exact h.strV
theorem RepU.lstV {ds : List D} (h : RepU K o H v (.list ds)) : ∃ a vs, v = .ref a ∧ H a = some (.lst vs) ∧ (∀ w, o a = some w → ¬ d3 w) ∧ vs.length ≤ sizeLine ∧ RepAll K o H vs ds := by
 cases h with
 | of _ _ h =>
  obtain ⟨a, vs, e, h1, h2, h3, h4⟩ := h.lstV
  exact ⟨a, vs, e, h1, (fun w hw => by rw [h2] at hw; cases hw), h3, h4⟩
 | lst a vs ds h1 h2 h3 h4 => exact ⟨a, vs, rfl, h1, h2, h3, h4⟩
theorem RepU.tupV {ds : List D} (h : RepU K o H v (.tuple ds)) : ∃ a vs, v = .ref a ∧ SqT K H a vs ∧ vs.length ≤ sizeLine ∧ RepAll K o H vs ds := by cases h with | of _ _ h => exact h.tupV
theorem RepU.tupW {ds : List D} (h : RepU K o H v (.tuple ds)) : ∃ a vs, v = .ref a ∧ SqT K H a vs ∧ vs.length ≤ sizeLine ∧ RepAll K o H vs ds := by cases h with | of _ _ h => exact h.tupW
theorem RepU.dctV {kvs : List (D × D)} (h : RepU K o H v (.dict kvs)) : ∃ q a ks vs ds, v = .ref a ∧ DAt K q H a ks vs ∧ (∀ w, o a = some w → ¬ d3 w) ∧ vs.length ≤ sizeLine ∧ ks.length = vs.length ∧ RepAll K o H vs ds ∧ kvs = mkD q (ks.zip ds) := by
 cases h with
 | of _ _ h =>
  cases h with
  | dct tk a ks vs ds kvs h1 h2 h3 h5 h4 e => exact ⟨tk, a, ks, vs, ds, rfl, h1, (fun w hw => by rw [h2] at hw; cases hw), h3, h5, h4, e⟩
 | dct tk a ks vs ds kvs h1 h2 h3 h5 h4 e => exact ⟨tk, a, ks, vs, ds, rfl, h1, h2, h3, h5, h4, e⟩
theorem RepU.dp (h : RepU K o H v d) (n : A0 d = true) : Dp K H v d := by
 cases h with
 | of _ _ h => exact h.dp n
 | lst a vs ds h1 h2 h3 h4 => exact .lst (.of h1) (h4.dp n)
 | dct => exact nomatch n
theorem RepU.can (h : RepU K o H v d) (n : A0 d = true) : PyData.canLay0 d = true := by
 cases h with
 | of _ _ h => exact h.can n
 | lst a vs ds h1 h2 h3 h4 => exact h4.can n
 | dct => exact nomatch n
end
def c1Z (G : Cc) (W : WX) (o : Gh) (c : Cs) (ρ : En) (σ : L2.St) (H : Hp) (r : R T) (Q : VK) : Prop := match r with
 | .ok t S' => ∃ d, asD t = some d ∧ ∀ v o' c' H', Step d3 o c H o' c' H' → NT o' → RS G.K o' c' ρ S' σ H' → RepU G.K o' H' v d → Q v H'
 | .exc e S' => ∀ cls d o' c' H', Step d3 o c H o' c' H' → RS G.K o' c' ρ S' σ H' → NT o' → b3n G.mg H' cls d e → W cls d σ H'
 | .bad => False
def URd (G : Cc) (W : WX) (t : TE) (f : SE) : Prop := ∀ (σ : L2.St) (H : Hp) (ρ : En) (S : Sto) (o : Gh) (c : Cs) (Q : VK), NT o → RS G.K o c ρ S σ H → c1Z G W o c ρ σ H (f ρ S) Q → t σ H Q
theorem URd.d {G : Cc} {W : WX} {o : Gh} {c : Cs} {ρ : En} {σ : L2.St} {H : Hp} {f : SE} {t : TE} (h : URd G W t f) {S : Sto} {k : D → Sto → R T} {Q Q0 : VK} (nt : NT o) (rs : RS G.K o c ρ S σ H) (p : PostE G W o c ρ σ H (R.d (f ρ S) k) Q0)
  (q : ∀ d S1 v o1 c1 H1, Step d3 o c H o1 c1 H1 → NT o1 → RS G.K o1 c1 ρ S1 σ H1 → RepU G.K o1 H1 v d → PostE G W o1 c1 ρ σ H1 (k d S1) Q0 → Q v H1) : t σ H Q := by
 refine h σ H ρ S o c Q nt rs ?_
 cases e : f ρ S with
 | ok t S1 =>
  rw [e] at p
  cases e2 : asD t with
  | none => rw [R.d_okn e2] at p; exact p.elim
  | some d =>
   rw [R.d_oks e2] at p
   exact ⟨d, e2, fun v o' c' H' s nt' rs' r' => q d S1 v o' c' H' s nt' rs' r' (p.step s)⟩
 | exc e S1 => rw [e] at p; exact p
 | bad => rw [e] at p; exact p
def UV (G : Cc) (e : Expr) (f : SE) : Prop := ∃ t : WX → TE, (∀ X W, G.Ok X W → PE X e (t W)) ∧ ∀ W, URd G W (t W) f
theorem EV.u {G : Cc} {e : Expr} {f : SE} (h : EV G e f) : UV G e f := by
 obtain ⟨t, p, q⟩ := h
 refine ⟨t, p, fun W σ H ρ S o c Q nt rs ps => q W σ H ρ S o c Q nt rs ?_⟩
 cases e : f ρ S with
 | ok t S1 =>
  rw [e] at ps
  obtain ⟨d, e1, h⟩ := ps
  exact fun v o' c' H' s rs' r' => h v _ c' H' (s.untmp nt) C2 rs'.untmp (.of _ _ (r'.toD rs'.cs.trk e1))
 | exc e S1 => rw [e] at ps; exact ps
 | bad => rw [e] at ps; exact ps

def mkO (o : Gh) (a : Addr) (w : Ow) : Gh := fun b => if b = a then some w else o b
theorem u9 {o : Gh} {a : Addr} {w : Ow} : mkO o a w a = some w := by unfold mkO; rw [if_pos rfl]
theorem B8 {o : Gh} {a b : Addr} {w : Ow} (h : b ≠ a) : mkO o a w b = o b := by unfold mkO; rw [if_neg h]
section
variable {K : PySem.W.Frag} {o : Gh} {c : Cs} {H : Hp} {vol : Ow → Prop} {ρ : En} {S : Sto} {σ : L2.St} {v : V} {t : T} {w : Ow} {p : Addr} {u : HO}
theorem Step.laid (n : H p = none) : Step vol o c H o c (upd H p u) where
 keep := fun a x e _ => by rw [upd_ne (ne_of_none e n)]; exact e
 own := fun _ _ e _ => e
 new := fun _ e e' => absurd e e'
 pre := List.prefix_refl c
theorem Trk.laid (tr : Trk o H) (n : H p = none) : Trk o (upd H p u) := fun a h => by
 obtain ⟨x, e, q⟩ := tr a h
 exact ⟨x, by rw [upd_ne (ne_of_none e n)]; exact e, q⟩
theorem Step.laidO (tr : Trk o H) (n : H p = none) : Step vol o c H (mkO o p w) c (upd H p u) where
 keep := fun a x e _ => by rw [upd_ne (ne_of_none e n)]; exact e
 own := fun a w' e _ => by
  have : a ≠ p := fun z => by
   subst z
   have := tr.new n
   rw [this] at e; cases e
  rw [B8 this]; exact e
 new := fun a e e' => by
  by_cases h : a = p
  ·subst h; exact n
  ·rw [B8 h] at e'; exact absurd e e'
 pre := List.prefix_refl c
theorem Trk.laidO (tr : Trk o H) (n : H p = none) (ou : E5 u) : Trk (mkO o p w) (upd H p u) := fun a h => by
 by_cases e : a = p
 ·subst e; exact ⟨u, upd_same, ou⟩
 ·rw [B8 e] at h
  obtain ⟨x, e', q⟩ := tr a h
  exact ⟨x, by rw [upd_ne e]; exact e', q⟩
theorem CellR.kept {o' : Gh} {H' : Hp} {n : Nat} {b : Addr} {k : Ce} (tr : Trk o H) (kp : Kept o H o' H') (h : ∀ b, o b = some (.cell n) → o' b = some (.cell n) ∧ ∀ u, H b = some u → H' b = some u) (y : CellR K o H n b k) : CellR K o' H' n b k := by
 cases k with
 | dead => trivial
 | lst xs =>
  obtain ⟨q1, vs, q2, q3, q4⟩ := y
  obtain ⟨k1, k2⟩ := h _ q1
  exact ⟨k1, vs, k2 _ q2, q3, q4.kept tr kp⟩
 | dct tk kvs =>
  obtain ⟨q1, ks, vs, ds, q2, q3, q5, q4, q6⟩ := y
  obtain ⟨k1, k2⟩ := h _ q1
  exact ⟨k1, ks, vs, ds, q2.kept k2 (fun b us zz => SqT.kept tr kp zz), q3, q5, q4.kept tr kp, q6⟩
 | tab =>
  obtain ⟨q0, q1, ps, q2, q3, q4⟩ := y
  obtain ⟨k1, k2⟩ := h _ q1
  exact ⟨q0, k1, ps, k2 _ q2, q3, fun pos cv e => by
   obtain ⟨b, e1, e2, e3⟩ := q4 pos cv e
   obtain ⟨k3, k4⟩ := h _ e3
   exact ⟨b, e1, k4 _ e2, k3⟩⟩
 | rcd b v =>
  obtain ⟨q0, fv, q1, q2, q3⟩ := y
  obtain ⟨k1, k2⟩ := h _ q0
  exact ⟨k1, fv, q1.moved k2, q2, q3.movedH tr kp h⟩
theorem CS.move {o' : Gh} {H' : Hp} (r : CS K o c S H) (k : Kept o H o' H') (kc : ∀ a n, o a = some (.cell n) → o' a = some (.cell n) ∧ ∀ u, H a = some u → H' a = some u) (tr : Trk o' H') : CS K o' c S H' :=
 ⟨r.clen, fun n a q e1 e2 => (r.cell n a q e1 e2).kept r.trk k fun a h => kc a n h, tr⟩
theorem CS.laid (r : CS K o c S H) (n : H p = none) : CS K o c S (upd H p u) :=
 r.move (Step.laid (vol := d3) (c := c) n).kept (fun a m e => ⟨e, fun x q => by rw [upd_ne (ne_of_none q n)]; exact q⟩) (r.trk.laid n)
theorem CS.laidO (r : CS K o c S H) (n : H p = none) (ou : E5 u) : CS K (mkO o p w) c S (upd H p u) :=
 r.move (Step.laidO (vol := d3) (c := c) r.trk n).kept (fun a m e => by
  have : a ≠ p := fun z => by
   subst z
   have := r.trk.new n
   rw [this] at e; cases e
  exact ⟨by rw [B8 this]; exact e, fun x q => by rw [upd_ne (ne_of_none q n)]; exact q⟩) (r.trk.laidO n ou)
theorem RS.laid (r : RS K o c ρ S σ H) (n : H p = none) : RS K o c ρ S σ (upd H p u) := r.step (Step.laid n) (r.cs.laid n)
theorem RS.laidO (r : RS K o c ρ S σ H) (n : H p = none) (ou : E5 u) : RS K (mkO o p w) c ρ S σ (upd H p u) := r.step (Step.laidO r.cs.trk n) (r.cs.laidO n ou)
end
section
variable {G : Cc} {W : WX} {o : Gh} {c : Cs} {ρ : En} {σ : L2.St} {H : Hp} {Q : VK} {S : Sto} {p : Addr} {vs : List V} {ds : List D}
theorem f7 {v : V} {d : D} (rs : RS G.K o c ρ S σ H) (h : PostE G W o c ρ σ H (.ok (.val d) S) Q) (r : Rep G.K o H v d) : Q v H := h v o c H Step.refl rs r
theorem D9 (rs : RS G.K o c ρ S σ H) (h : PostE G W o c ρ σ H (.ok (.own ds) S) Q) (n : H p = none) (z : vs.length ≤ sizeLine) (r : RepAll G.K o H vs ds) : Q (.ref p) (upd H p (.lst vs)) :=
 h (.ref p) (mkO o p .tmp) c _ (Step.laidO rs.cs.trk n) (rs.laidO n trivial) ⟨p, vs, rfl, u9, upd_same, z, r.step rs.cs.trk (Step.laidO (vol := d3) (c := c) rs.cs.trk n)⟩
theorem a0m (rs : RS G.K o c ρ S σ H) (h : PostE G W o c ρ σ H (.ok (.val (.tuple ds)) S) Q) (n : H p = none) (z : vs.length ≤ sizeLine) (r : RepAll G.K o H vs ds) : Q (.ref p) (upd H p (.tup vs)) :=
 h (.ref p) o c _ (Step.laid n) (rs.laid n) (.tup p vs ds (.of upd_same) z (r.step rs.cs.trk (Step.laid (vol := d3) (c := c) n)))
end

abbrev SA := En → Sto → R (List T)
def R.l {α β : Type} (r : R α) (k : α → Sto → R β) : R β := match r with
 | .ok t S => k t S
 | .exc e S => .exc e S
 | .bad => .bad
theorem R.l_ok {α β : Type} (t : α) (S : Sto) (k : α → Sto → R β) : R.l (.ok t S) k = k t S := rfl
def l8 : SA := fun _ S => .ok [] S
def d2 (f : SE) (g : SA) : SA := fun ρ S => R.l (f ρ S) fun t S1 => R.l (g ρ S1) fun ts S2 => .ok (asA t :: ts) S2
def RepTs (K : PySem.W.Frag) (o : Gh) (c : Cs) (H : Hp) (vs : List V) (ts : List T) : Prop := vs.length = ts.length ∧ ∀ (i : Nat) (v : V) (t : T), vs[i]? = some v → ts[i]? = some t → RepT K o c H .prot v t ∧ asA t = t
def PostA (G : Cc) (W : WX) (o : Gh) (c : Cs) (ρ : En) (σ : L2.St) (H : Hp) (r : R (List T)) (Q : List V → Hp → Prop) : Prop := match r with
 | .ok ts S' => ∀ vs o' c' H', Step d3 o c H o' c' H' → NT o' → RS G.K o' c' ρ S' σ H' → RepTs G.K o' c' H' vs ts → Q vs H'
 | .exc e S' => ∀ cls d o' c' H', Step d3 o c H o' c' H' → RS G.K o' c' ρ S' σ H' → NT o' → b3n G.mg H' cls d e → W cls d σ H'
 | .bad => False
def AR (G : Cc) (W : WX) (t : TA) (f : SA) : Prop := ∀ (σ : L2.St) (H : Hp) (ρ : En) (S : Sto) (o : Gh) (c : Cs) (Q : List V → Hp → Prop), NT o → RS G.K o c ρ S σ H → PostA G W o c ρ σ H (f ρ S) Q → t σ H Q
theorem AR.d {G : Cc} {W : WX} {o : Gh} {c : Cs} {ρ : En} {σ : L2.St} {H : Hp} {f : SA} {t : TA} (h : AR G W t f) {S : Sto} {k : List T → Sto → R T} {Q : List V → Hp → Prop} {Q0 : VK} (nt : NT o) (rs : RS G.K o c ρ S σ H) (p : PostE G W o c ρ σ H (R.l (f ρ S) k) Q0)
  (q : ∀ ts S1 vs o1 c1 H1, Step d3 o c H o1 c1 H1 → NT o1 → RS G.K o1 c1 ρ S1 σ H1 → RepTs G.K o1 c1 H1 vs ts → PostE G W o1 c1 ρ σ H1 (k ts S1) Q0 → Q vs H1) : t σ H Q := by
 refine h σ H ρ S o c Q nt rs ?_
 cases e : f ρ S with
 | ok ts S1 => rw [e] at p; exact fun vs o' c' H' s nt' rs' r' => q ts S1 vs o' c' H' s nt' rs' r' (PostE.step s p)
 | exc e S1 => rw [e] at p; exact p
 | bad => rw [e] at p; exact p
def AV (G : Cc) (es : List Expr) (f : SA) : Prop := ∃ t : WX → TA, (∀ X W, G.Ok X W → PA X es (t W)) ∧ ∀ W, AR G W (t W) f
theorem b4I (t : T) : asA (asA t) = asA t := by cases t <;> rfl
theorem RepTs.step {K : PySem.W.Frag} {o o1 : Gh} {c c1 : Cs} {H H1 : Hp} {vs : List V} {ts : List T} (tr : Trk o H) (a : Step d3 o c H o1 c1 H1) (r : RepTs K o c H vs ts) : RepTs K o1 c1 H1 vs ts :=
 ⟨r.1, fun i v t e1 e2 => ⟨(r.2 i v t e1 e2).1.step tr a (fun z => z), (r.2 i v t e1 e2).2⟩⟩
theorem j3 {G : Cc} : AV G [] l8 := ⟨fun _ => tNil, fun X W k => pa_nil, fun W σ H ρ S o c Q nt rs p => p [] o c H Step.refl nt rs ⟨rfl, fun i v t e => by simp at e⟩⟩
theorem PostA.step {G : Cc} {W : WX} {o o1 : Gh} {c c1 : Cs} {ρ : En} {σ : L2.St} {H H1 : Hp} {r : R (List T)} {Q : List V → Hp → Prop} (a : Step d3 o c H o1 c1 H1) (h : PostA G W o c ρ σ H r Q) : PostA G W o1 c1 ρ σ H1 r Q := by
 cases r with
 | ok t S' => exact fun v o' c' H' s => h v o' c' H' (a.trans s)
 | exc e S' => exact fun cls d o' c' H' s => h cls d o' c' H' (a.trans s)
 | bad => exact h
theorem d4 {G : Cc} {e : Expr} {es : List Expr} {f : SE} {g : SA} (h1 : EV G e f) (h2 : AV G es g) (hs : ∀ env : PySem.Env, starEach (e :: es) env = (false, eval e env) :: starEach es env := by intro _; rfl) : AV G (e :: es) (d2 f g) := by
 obtain ⟨t1, p1, q1⟩ := h1
 obtain ⟨t2, p2, q2⟩ := h2
 refine ⟨fun W => tCons (t1 W) (t2 W), fun X W k => pa_cons (p1 X W k) (p2 X W k) (hs _), fun W σ H ρ S o c Q nt rs p => ?_⟩
 refine q1 W σ H ρ S o c _ nt rs ?_
 unfold d2 at p
 cases e1 : f ρ S with
 | ok t S1 =>
  rw [e1] at p
  intro v o1 c1 H1 s1 rs1 r1
  have s1' := s1.untmp nt
  have p' := PostA.step s1' p
  refine q2 W σ H1 ρ S1 (unT o1) c1 _ C2 rs1.untmp ?_
  cases e2 : g ρ S1 with
  | bad => rw [R.l_ok, e2] at p'; exact p'
  | exc e S2 => rw [R.l_ok, e2] at p'; exact p'
  | ok ts S2 =>
   rw [R.l_ok, e2] at p'
   intro vs o2 c2 H2 s2 nt2 rs2 r2
   refine p' (v :: vs) o2 c2 H2 s2 nt2 rs2 ⟨by rw [List.length_cons, List.length_cons, r2.1], fun i v' t' e3 e4 => ?_⟩
   cases i with
   | zero =>
    simp only [List.getElem?_cons_zero, Option.some.injEq] at e3 e4
    subst e3 e4
    exact ⟨(r1.toA (w := .prot) rs1.cs.trk).step rs1.untmp.cs.trk s2 (fun z => z), b4I t⟩
   | succ i => exact r2.2 i v' t' (by simpa using e3) (by simpa using e4)
 | exc e S1 => rw [e1] at p; exact p
 | bad => rw [e1] at p; exact p

def PostS (G : Cc) (W : WX) (o : Gh) (c : Cs) (H : Hp) (r : Fl) (D : Ends) : Prop := match r with
 | .nx ρ' S' => ∀ σ' o' c' H', Step B4 o c H o' c' H' → NT o' → RS G.K o' c' ρ' S' σ' H' → D.nx σ' H'
 | .bk ρ' S' => ∀ σ' o' c' H', Step B4 o c H o' c' H' → NT o' → RS G.K o' c' ρ' S' σ' H' → D.bk σ' H'
 | .ct ρ' S' => ∀ σ' o' c' H', Step B4 o c H o' c' H' → NT o' → RS G.K o' c' ρ' S' σ' H' → D.ct σ' H'
 | .rt t S' => ∀ v o' c' H', Step B4 o c H o' c' H' → CS G.K o' c' S' H' → RepT G.K o' c' H' .tmp v t → D.rt v H'
 | .ex e ρ' S' => ∀ cls d σ' o' c' H', Step B4 o c H o' c' H' → NT o' → RS G.K o' c' ρ' S' σ' H' → b3n G.mg H' cls d e → W cls d σ' H'
 | .bad => False
def SR (G : Cc) (W : WX) (t : TS) (f : SS) : Prop := ∀ (σ : L2.St) (H : Hp) (ρ : En) (S : Sto) (o : Gh) (c : Cs) (D : Ends), NT o → RS G.K o c ρ S σ H → PostS G W o c H (f ρ S) D → t D σ H
def SV (G : Cc) (st : Stmt) (f : SS) : Prop := ∃ t : WX → TS, (∀ X W, G.Ok X W → PS X st (t W)) ∧ ∀ W, SR G W (t W) f
def SVs (G : Cc) (st : List Stmt) (f : SS) : Prop := ∃ t : WX → TS, (∀ X W, G.Ok X W → PSs X st (t W)) ∧ ∀ W, SR G W (t W) f
section
variable {G : Cc} {W : WX} {o o1 : Gh} {c c1 : Cs} {H H1 : Hp} {r : Fl} {D : Ends} {st : Stmt} {sts : List Stmt} {f g : SS}
theorem PostS.step (a : Step B4 o c H o1 c1 H1) (h : PostS G W o c H r D) : PostS G W o1 c1 H1 r D := by
 cases r with
 | nx ρ S => exact fun σ' o' c' H' s => h σ' o' c' H' (a.trans s)
 | bk ρ S => exact fun σ' o' c' H' s => h σ' o' c' H' (a.trans s)
 | ct ρ S => exact fun σ' o' c' H' s => h σ' o' c' H' (a.trans s)
 | rt t S => exact fun v o' c' H' s => h v o' c' H' (a.trans s)
 | ex e ρ S => exact fun cls d σ' o' c' H' s => h cls d σ' o' c' H' (a.trans s)
 | bad => exact h
def r7 : SS := fun ρ S => .nx ρ S
def Fl.then (r : Fl) (g : SS) : Fl := match r with
 | .nx ρ S => g ρ S
 | x => x
def k7 (f g : SS) : SS := fun ρ S => (f ρ S).then g
theorem k8 : SVs G [] r7 := ⟨fun _ => tNext, fun _ _ _ => pss_nil, fun W σ H ρ S o c D nt rs p => p σ o c H Step.refl nt rs⟩
theorem b9 (h1 : SV G st f) (h2 : SVs G sts g) : SVs G (st :: sts) (k7 f g) := by
 obtain ⟨t1, p1, q1⟩ := h1
 obtain ⟨t2, p2, q2⟩ := h2
 refine ⟨fun W => tSeq (t1 W) (t2 W), fun X W k => pss_cons (p1 X W k) (p2 X W k), fun W σ H ρ S o c D nt rs p => ?_⟩
 refine q1 W σ H ρ S o c _ nt rs ?_
 unfold k7 at p
 cases e : f ρ S with
 | nx ρ' S' =>
  rw [e] at p
  intro σ' o' c' H' s nt' rs'
  have p' : PostS G W o c H (g ρ' S') D := p
  exact q2 W σ' H' ρ' S' o' c' D nt' rs' (p'.step s)
 | bk ρ' S' => rw [e] at p; exact p
 | ct ρ' S' => rw [e] at p; exact p
 | rt t S' => rw [e] at p; exact p
 | ex e ρ' S' => rw [e] at p; exact p
 | bad => rw [e] at p; exact p
theorem d6 (h1 : SV G st f) : SVs G [st] f := by
 obtain ⟨t1, p1, q1⟩ := h1
 exact ⟨t1, fun X W k => pss_one (p1 X W k), q1⟩
end
end BV
namespace BV
open PySem L2

section
variable {G : Cc} {X : Cx} {W : WX}
theorem Cc.Ok.at (k : G.Ok X W) {i : Nat} {x : Str} (h : G.N[i]? = some x) : X.N[i]? = some x := by rw [k.N]; exact h
theorem Cc.Ok.vis (k : G.Ok X W) {x : Str} (h : Vis G.sc x) : Vis X.env.scope x := by rw [k.sc]; exact h
theorem Cc.Ok.loc (k : G.Ok X W) {x : Str} (h : Loc G.sc x) : Loc X.env.scope x := by rw [k.sc]; exact h
theorem Cc.Ok.gl (k : G.Ok X W) {x : Str} (h : G.sc.names.lookup x = some .globalImplicit) : Gl X x := by
 show X.env.scope.names.lookup x = some .globalImplicit
 rw [k.sc]; exact h
theorem Cc.Ok.nd (k : G.Ok X W) (h : G.N.Nodup) : X.N.Nodup := by rw [k.N]; exact h
theorem Cc.Ok.m (k : G.Ok X W) {x : Str} {u : Option Value} (h : G.mg x = u) : X.mg x = u := by rw [k.mg]; exact h
theorem Cc.Ok.hf (k : G.Ok X W) {x : Str} (h : G.fn x = true ∨ G.sc.names.lookup x = some .local) : X.fn x = true ∨ X.env.scope.names.lookup x = some .local := by rw [k.fn, k.sc]; exact h
end

section
variable {G : Cc} {pos : Pos}
def l7 (i : Nat) : SE := fun ρ S => match ρ[i]? with
 | some (some (.val d)) => .ok (.val d) S
 | some (some (.cel n)) => .ok (.cel n) S
 | some (some (.scr ns)) => .ok (.scr ns) S
 | some (some (.exn a C d e)) => .ok (.exn a C d e) S
 | _ => .bad
theorem d8 (i : Nat) {x : Str} (hN : G.N[i]? = some x := by rfl) (hv : Vis G.sc x := by first | exact Or.inl rfl | exact Or.inr (Or.inl rfl) | exact Or.inr (Or.inr rfl))
  (hd : (x == ("__debug__" : Str)) = false := by decide) (hcd : (x == ("__classdict__" : Str)) = false := by decide) : EV G (.Name x pos) (l7 i) := by
 refine ⟨fun _ => tVar i, fun X W k => pe_var (k.at hN) (k.vis hv) hd hcd, fun W σ H ρ S o c Q nt rs p => ?_⟩
 unfold l7 at p
 split at p
 ·rename_i d e
  obtain ⟨v, e1, r⟩ := rs.slot i _ e
  exact ⟨v, e1, p v o c H Step.refl rs r⟩
 ·rename_i n e
  obtain ⟨v, e1, r⟩ := rs.slot i _ e
  exact ⟨v, e1, p v o c H Step.refl rs r⟩
 ·rename_i ns e
  obtain ⟨v, e1, r⟩ := rs.slot i _ e
  exact ⟨v, e1, p v o c H Step.refl rs r⟩
 ·rename_i a C d x e
  obtain ⟨v, e1, r⟩ := rs.slot i _ e
  exact ⟨v, e1, p v o c H Step.refl rs r⟩
 ·exact p.elim
def cC (d : D) : SE := fun _ S => .ok (.val d) S
theorem c0n {e : Expr} {v : V} {d : D} (h : ∀ X, PE X e (tC v)) (r : ∀ K o H, Rep K o H v d) : EV G e (cC d) :=
 ⟨fun _ => tC v, fun X _ _ => h X, fun W σ H ρ S o c Q nt rs p => p v o c H Step.refl rs (r _ _ _)⟩
theorem c8 {i : Int} {j : Nat} : EV G (.Constant (.int i) j pos) (cC (.int i)) := c0n (fun _ => pe_int) fun _ _ _ => .int i
theorem a0C {i : Bool} {j : Nat} : EV G (.Constant (.bool i) j pos) (cC (.bool i)) := c0n (fun _ => pe_bl) fun _ _ _ => .bl i
theorem J7 {j : Nat} : EV G (.Constant .none j pos) (cC .none) := c0n (fun _ => pe_non) fun _ _ _ => .non
theorem b4k (s : String) : PyData.strOk (Str.ofString s) = true := by
 have h := TL.tl_ofString s
 have e : (Str.ofString s).cps.toList = s.toList.map Char.toNat := h
 show (Str.ofString s).cps.all (fun x => decide (x < 0x110000)) = true
 rw [← Array.all_toList, e, List.all_map, List.all_eq_true]
 intro c _
 have := c.valid
 show decide (c.val.toNat < 0x110000) = true
 refine decide_eq_true ?_
 have q : c.val.toNat < 0xd800 ∨ (0xdfff < c.val.toNat ∧ c.val.toNat < 0x110000) := this
 omega
theorem a75 {x : Str} {j : Nat} (h1 : PyData.strOk x = true := by exact b4k _) (h2 : x.length ≤ sizeLine := by decide +kernel) : EV G (.Constant (.str x) j pos) (cC (.str x)) := c0n (fun _ => pe_str) fun _ _ _ => .str x h1 h2
theorem b6W {x : Str} {i : Int} {t : Tok} (hm : G.mg x = some (.int i t)) (hg : G.sc.names.lookup x = some .globalImplicit := by rfl) (hd : (x == ("__debug__" : Str)) = false := by decide) : EV G (.Name x pos) (cC (.int i)) :=
 ⟨fun _ => tC (.int i), fun X W k => pe_glob (k.gl hg) (k.m hm) ⟨_, rfl⟩ hd, fun W σ H ρ S o c Q nt rs p => p _ o c H Step.refl rs (.int i)⟩
def b7 (i : Nat) : SE := fun ρ S => match ρ[i]? with
 | some (some (.val d)) => .ok (.val d) S
 | some (some (.own xs)) => .ok (.own xs) S
 | some (some (.ownd q kvs)) => .ok (.ownd q kvs) S
 | _ => .bad
theorem b6 (i : Nat) {x : Str} (hN : G.N[i]? = some x := by rfl) (hv : Vis G.sc x := by first | exact Or.inl rfl | exact Or.inr (Or.inl rfl) | exact Or.inr (Or.inr rfl))
  (hd : (x == ("__debug__" : Str)) = false := by decide) (hcd : (x == ("__classdict__" : Str)) = false := by decide) : UV G (.Name x pos) (b7 i) := by
 refine ⟨fun _ => tVar i, fun X W k => pe_var (k.at hN) (k.vis hv) hd hcd, fun W σ H ρ S o c Q nt rs p => ?_⟩
 have ns : ∀ a, o a = some (.slot i) → ∀ w, o a = some w → ¬ d3 w := fun a h w hw => by rw [h] at hw; cases hw; exact fun z => z
 unfold b7 at p
 split at p
 ·rename_i d e
  obtain ⟨v, e1, r⟩ := rs.slot i _ e
  obtain ⟨d', e2, q⟩ := p
  cases e2
  exact ⟨v, e1, q v o c H Step.refl nt rs (.of _ _ r)⟩
 ·rename_i xs e
  obtain ⟨v, e1, a, vs, e2, h1, h2, h3, h4⟩ := rs.slot i _ e
  subst e2
  obtain ⟨d', e2, q⟩ := p
  cases e2
  exact ⟨_, e1, q _ o c H Step.refl nt rs (.lst a vs xs h2 (ns a h1) h3 h4)⟩
 ·rename_i tk kvs e
  obtain ⟨v, e1, a, ks, vs, ds, e2, h1, h2, h3, h5, h4, e6⟩ := rs.slot i _ e
  subst e2
  obtain ⟨d', e2, q⟩ := p
  cases e2
  exact ⟨_, e1, q _ o c H Step.refl nt rs (.dct tk a ks vs ds _ h2.r (ns a h1) h3 h5 h4 (by rw [e6]))⟩
 ·exact p.elim

def d5 (g : D → D → Option T) (f1 f2 : SE) : SE := fun ρ S => R.d (f1 ρ S) fun a S1 => R.d (f2 ρ S1) fun b S2 => match g a b with | some t => .ok t S2 | none => .bad
def OpD (K : PySem.W.Frag) (r : R2) (g : D → D → Option T) : Prop := ∀ (G : Cc) (W : WX) (o : Gh) (c : Cs) (ρ : En) (S : Sto) (σ : L2.St) (H : Hp) (x y : V) (a b : D) (t : T) (Q : VK), G.K = K → RS K o c ρ S σ H → RepU K o H x a → RepU K o H y b → g a b = some t →
 PostE G W o c ρ σ H (.ok t S) Q → r x y H Q
theorem a4r {W : WX} {t1 t2 : TE} {f1 f2 : SE} {r : R2} {g : D → D → Option T} (h1 : URd G W t1 f1) (h2 : URd G W t2 f2) (hr : OpD G.K r g) : ER G W (tOp r t1 t2) (d5 g f1 f2) := by
 intro σ H ρ S o c Q nt rs p
 refine h1.d nt rs p fun a S1 v1 o1 c1 H1 s1 nt1 rs1 r1 p1 => ?_
 refine h2.d nt1 rs1 p1 fun b S2 v2 o2 c2 H2 s2 nt2 rs2 r2 p2 => ?_
 cases e : g a b with
 | none => rw [e] at p2; exact p2.elim
 | some t =>
  rw [e] at p2
  exact hr G W o2 c2 ρ S2 σ H2 v1 v2 a b t Q rfl rs2 (r1.step rs1.cs.trk s2) r2 e p2
theorem b0c {a b : Expr} {f1 f2 : SE} {op : Operator} {r : PySem.W.Frag → R2} {g : D → D → Option T} (ho : ∀ X W, G.Ok X W → OpR X (binaryOp op) (r X.K)) (hr : OpD G.K (r G.K) g) (h1 : UV G a f1) (h2 : UV G b f2) : EV G (.BinOp a op b pos) (d5 g f1 f2) := by
 obtain ⟨t1, p1, q1⟩ := h1
 obtain ⟨t2, p2, q2⟩ := h2
 exact ⟨fun W => tOp (r G.K) (t1 W) (t2 W), fun X W k => by have := ho X W k; rw [k.K] at this; exact pe_op this (p1 X W k) (p2 X W k), fun W => a4r (q1 W) (q2 W) hr⟩

def w9 : D → D → Option T
 | .int i, .int j => some (.val (.int (i + j)))
 | .str x, .str y => if x.length + y.length ≤ sizeLine then some (.val (.str (x ++ y))) else none
 | .list xs, .list ys => if xs.length + ys.length ≤ sizeLine then some (.own (xs ++ ys)) else none
 | .tuple xs, .tuple ys => if xs.length + ys.length ≤ sizeLine then some (.val (.tuple (xs ++ ys))) else none
 | _, _ => none
def b8G (K : PySem.W.Frag) : R2 := fun x y H Q => (((∃ i j, x = .int i ∧ y = .int j ∧ Q (.int (i + j)) H) ∨ (∃ i j, x = .str i ∧ y = .str j ∧ i.length + j.length ≤ sizeLine ∧ Q (.str (i ++ j)) H)) ∨ (rCat x y H Q ∨ rCatA K x y H Q))
theorem a4B {x y : Str} (h1 : PyData.strOk x = true) (h2 : PyData.strOk y = true) : PyData.strOk (x ++ y) = true := by
 have e : (x ++ y).cps = x.cps ++ y.cps := rfl
 show (x ++ y).cps.all _ = true
 rw [e, Array.all_append, Bool.and_eq_true]
 exact ⟨h1, h2⟩
theorem Z0 (x y : Str) : (x ++ y).length = x.length + y.length := by
 show (x.cps ++ y.cps).size = _
 rw [Array.size_append]
 rfl
theorem b7A (K : PySem.W.Frag) : OpD K (b8G K) w9 := by
 intro G W o c ρ S σ H x y a b t Q hK rs r1 r2 e p
 subst hK
 unfold w9 at e
 split at e
 ·cases e
  rw [r1.intV, r2.intV]
  exact .inl (.inl ⟨_, _, rfl, rfl, f7 rs p (.int _)⟩)
 ·split at e
  ·cases e
   obtain ⟨e1, o1, l1⟩ := r1.strV
   obtain ⟨e2, o2, l2⟩ := r2.strV
   rw [e1, e2]
   rename_i hl
   exact .inl (.inr ⟨_, _, rfl, rfl, hl, f7 rs p (.str _ (a4B o1 o2) (by rw [Z0]; exact hl))⟩)
  ·cases e
 ·split at e
  ·cases e
   obtain ⟨a1, v1, e1, h1, n1, z1, q1⟩ := r1.lstV
   obtain ⟨a2, v2, e2, h2, n2, z2, q2⟩ := r2.lstV
   rw [e1, e2]
   rename_i hl
   rw [← q1.length, ← q2.length] at hl
   exact .inr (.inl ⟨a1, a2, v1, v2, rfl, rfl, h1, h2, hl, fun q n => D9 rs p n (by rw [List.length_append]; exact hl) (q1.append q2)⟩)
  ·cases e
 ·split at e
  ·cases e
   obtain ⟨a1, v1, e1, h1, z1, q1⟩ := r1.tupW
   obtain ⟨a2, v2, e2, h2, z2, q2⟩ := r2.tupW
   rw [e1, e2]
   rename_i hl
   rw [← q1.length, ← q2.length] at hl
   refine .inr (.inr ⟨a1, a2, v1, v2, rfl, rfl, h1, h2, hl, fun z => ?_, fun _ z => ?_, fun z1 z2 q n => a0m rs p n (by rw [List.length_append]; exact hl) (q1.append q2)⟩)
   ·subst z
    cases q1
    exact f7 rs p (.tup a2 v2 _ h2 z2 q2)
   ·subst z
    cases q2
    exact f7 rs p (by rw [List.append_nil]; exact .tup a1 v1 _ h1 z1 q1)
  ·cases e
 ·cases e
theorem j4 {a b : Expr} {f1 f2 : SE} (h1 : UV G a f1) (h2 : UV G b f2) : EV G (.BinOp a .Add b pos) (d5 w9 f1 f2) :=
 b0c (r := b8G) (fun X W k => (op_add.or op_add_str).or (op_cat.or op_catA)) (b7A _) h1 h2
def b8m (p : Int → Int → Bool) (h : Int → Int → Int) : D → D → Option T
 | .int i, .int j => if p i j then some (.val (.int (h i j))) else none
 | _, _ => none
theorem a2A {K : PySem.W.Frag} {C : Int → Int → Prop} {p : Int → Int → Bool} {h : Int → Int → Int} (hp : ∀ i j, p i j = true → C i j) : OpD K (rI C fun i j => .int (h i j)) (b8m p h) := by
 intro G W o c ρ S σ H x y a b t Q hK rs r1 r2 e q
 subst hK
 unfold b8m at e
 split at e
 ·split at e
  ·cases e
   rw [r1.intV, r2.intV]
   exact ⟨_, _, rfl, rfl, hp _ _ ‹_›, f7 rs q (.int _)⟩
  ·cases e
 ·cases e
def gSub := b8m (fun _ _ => true) (fun i j => i - j)
theorem C9 {a b : Expr} {f1 f2 : SE} (h1 : UV G a f1) (h2 : UV G b f2) : EV G (.BinOp a .Sub b pos) (d5 gSub f1 f2) :=
 b0c (r := fun _ => rI (fun _ _ => True) fun i j => .int (i - j)) (fun X W k => opI fun _ _ _ _ _ _ _ _ q => PyProof.Rows.sub_int q) (a2A fun _ _ _ => trivial) h1 h2
def b2P (i j : Int) : Bool := decide (i.natAbs.log2 + j.natAbs.log2 < 1000000)
theorem b4y {i j : Int} (h : b2P i j = true) : CMulW i j := by
 unfold b2P at h
 have h2 : i.natAbs.log2 + j.natAbs.log2 < 1000000 := of_decide_eq_true h
 exact h2
def B0 (i : Int) : Bool := decide (i.natAbs.log2 < 60)
theorem V6 {i : Int} (h : B0 i = true) : -(2 ^ 60) < i ∧ i < 2 ^ 60 := by
 have h1 : i.natAbs.log2 < 60 := of_decide_eq_true h
 have h2 : i.natAbs < 2 ^ 60 := by
  by_cases z : i.natAbs = 0
  ·omega
  ·exact (Nat.log2_lt z).mp h1
 omega
theorem O1 {i : Int} (h : B0 i = true) : -(2 ^ 62) ≤ i := by have := V6 h; omega
theorem V7 {i : Int} (h : B0 i = true) : i < 2 ^ 62 := by have := V6 h; omega
theorem a14 {i : Int} (h : B0 i = true) : -(2 ^ 63) ≤ i := by have := V6 h; omega
theorem a1Y {i : Int} (h : B0 i = true) : i < 2 ^ 63 := by have := V6 h; omega
theorem a0W {i : Int} (h0 : -(2 ^ 60) < i) (h1 : i < 2 ^ 60) : B0 i = true := by
 refine decide_eq_true ?_
 by_cases z : i.natAbs = 0
 ·rw [z]; decide
 ·exact (Nat.log2_lt z).mpr (by omega)
def E2 : D → D → Option T
 | .int i, .int j => if b2P i j then some (.val (.int (i * j))) else none
 | .list xs, .int k => if B0 k = true ∧ xs.length * k.toNat ≤ sizeLine then some (.own (List.replicate k.toNat xs).flatten) else none
 | .int k, .list xs => if B0 k = true ∧ xs.length * k.toNat ≤ sizeLine then some (.own (List.replicate k.toNat xs).flatten) else none
 | _, _ => none
theorem RepAll.rep {K : PySem.W.Frag} {o : Gh} {H : Hp} {vs : List V} {ds : List D} (h : RepAll K o H vs ds) : ∀ k : Nat, RepAll K o H (List.replicate k vs).flatten (List.replicate k ds).flatten
 | 0 => .nil
 | k + 1 => by
  rw [List.replicate_succ, List.replicate_succ, List.flatten_cons, List.flatten_cons]
  exact h.append (RepAll.rep h k)
theorem X6 {α : Type} (xs : List α) : ∀ k : Nat, (List.replicate k xs).flatten.length = xs.length * k
 | 0 => by simp
 | k + 1 => by rw [List.replicate_succ, List.flatten_cons, List.length_append, X6 xs k, Nat.mul_succ, Nat.add_comm]
def b8O : R2 := fun x y H Q => rRep y x H Q
theorem b66 {X : Cx} : OpR X (binaryOp .Mult) b8O := by
 intro pins s σ H x y v u Q I rx ry hq
 obtain ⟨b, j, vs, rfl, rfl, hb, j1, j2, jz, q⟩ := hq
 obtain ⟨t, rfl⟩ := rx
 cases ry
 obtain ⟨z, its, n, r, hl, e⟩ := I.lstM hb
 have lz : its.toArray.size * j.toNat ≤ sizeLine := by simpa [← hl] using jz
 have c0 : ¬ (!Builtin.List.listFitsIndex j) = true := by simp [fitsIndex_both j1 j2]
 have c1 : ¬ its.toArray.size * j.toNat > (2 ^ 63 - 1) / 8 := fun w => absurd (Nat.lt_of_lt_of_le w lz) (by decide)
 have c2 : ¬ Builtin.List.listTooLong (its.toArray.size * j.toNat) = true := by rw [notLongL lz]; exact Bool.false_ne_true
 have made : List.foldl (fun p q => p ++ q) #[] (List.replicate (if its.toArray.isEmpty = true then 0 else j.toNat) its.toArray) = (List.replicate j.toNat its).flatten.toArray := by
  have f := foldl_rep its j.toNat []
  cases its with
  | nil => simp
  | cons a l => simpa using f
 refine lm_binaryOp_repeat_right (T := "list") (U := "int") (by decide) (typeIs_int · j t) ⟨_, e, rfl⟩ F.fills_int_mul noFill_list_mul F.slot_int_mul lm_noRepeat_int repeat_list F.slot_int_index.lookup ?_
 refine call_meets F.slot_int_mul (typeIs_int s j t) F.entry_int_mul (F.args_int_mul_2 _ _) (int___mul___int_list j t b its.toArray n) ⟨e, rfl, ⟨_, e, rfl⟩, ?_⟩
 refine call_meets F.slot_list_mul ⟨_, e, rfl⟩ F.entry_list_mul (F.args_list_mul_2 _ _) (AutoListH.list___mul___list_int_3 b its.toArray n j t c0 c1 c2) ⟨e, ?_⟩
 rw [made]
 refine ⟨.ref _, _, I.lnew (t' := s.toks) (r.rep j.toNat) ?_, rfl, q _ I.fresh⟩
 rw [PyProof.Rows.lm_len_rep_flat, Nat.mul_comm]
 exact jz
def b9C : R2 := fun x y H Q => rI CMulW (fun i j => .int (i * j)) x y H Q ∨ (rRep x y H Q ∨ b8O x y H Q)
theorem b6k (K : PySem.W.Frag) : OpD K b9C E2 := by
 intro G W o c ρ S σ H x y a b t Q hK rs r1 r2 e p
 subst hK
 unfold E2 at e
 split at e
 ·split at e
  ·cases e
   rw [r1.intV, r2.intV]
   exact .inl ⟨_, _, rfl, rfl, b4y ‹_›, f7 rs p (.int _)⟩
  ·cases e
 ·split at e
  ·cases e
   obtain ⟨a1, v1, e1, h1, n1, z1, q1⟩ := r1.lstV
   rw [e1, r2.intV]
   rename_i hl
   obtain ⟨k0, k3⟩ := hl
   have k1 := a14 k0
   have k2 := a1Y k0
   rw [← q1.length] at k3
   exact .inr (.inl ⟨a1, _, v1, rfl, rfl, h1, k1, k2, k3, fun q n => D9 rs p n (by rw [X6]; exact k3) (q1.rep _)⟩)
  ·cases e
 ·split at e
  ·cases e
   obtain ⟨a1, v1, e1, h1, n1, z1, q1⟩ := r2.lstV
   rw [e1, r1.intV]
   rename_i hl
   obtain ⟨k0, k3⟩ := hl
   have k1 := a14 k0
   have k2 := a1Y k0
   rw [← q1.length] at k3
   exact .inr (.inr ⟨a1, _, v1, rfl, rfl, h1, k1, k2, k3, fun q n => D9 rs p n (by rw [X6]; exact k3) (q1.rep _)⟩)
  ·cases e
 ·cases e
theorem B2 {a b : Expr} {f1 f2 : SE} (h1 : UV G a f1) (h2 : UV G b f2) : EV G (.BinOp a .Mult b pos) (d5 E2 f1 f2) :=
 b0c (r := fun _ => b9C) (fun X W k => op_mulW.or (op_rep.or b66)) (b6k _) h1 h2
def b4h (j : Int) : Bool := decide (0 < j) && decide (j.natAbs.log2 < 9000)
def a4z := b8m (fun _ j => b4h j) (fun i j => i / j)
theorem a1a {a b : Expr} {f1 f2 : SE} (h1 : UV G a f1) (h2 : UV G b f2) : EV G (.BinOp a .FloorDiv b pos) (d5 a4z f1 f2) :=
 b0c (r := fun _ => rI CDivW fun i j => .int (i / j)) (fun X W k => op_fdivW) (a2A fun _ j h => by
  unfold b4h at h
  rw [Bool.and_eq_true] at h
  exact ⟨of_decide_eq_true h.1, of_decide_eq_true h.2⟩) h1 h2
def a0g := b8m (fun _ j => decide (0 < j)) (fun i j => i % j)
theorem K0 {a b : Expr} {f1 f2 : SE} (h1 : UV G a f1) (h2 : UV G b f2) : EV G (.BinOp a .Mod b pos) (d5 a0g f1 f2) :=
 b0c (r := fun _ => rI (fun _ j => 0 < j) fun i j => .int (i % j)) (fun X W k => op_mod) (a2A fun _ j h => of_decide_eq_true h) h1 h2
def a3D := b8m (fun i j => decide (0 ≤ j ∧ j ≤ 1000000 ∧ i.natAbs < 2 ^ 64)) (fun i j => i ^ j.toNat)
theorem a18 {a b : Expr} {f1 f2 : SE} (h1 : UV G a f1) (h2 : UV G b f2) : EV G (.BinOp a .Pow b pos) (d5 a3D f1 f2) :=
 b0c (r := fun _ => rI CPow fun i j => .int (i ^ j.toNat)) (fun X W k => op_pow) (a2A fun i j h => (by have h2 : 0 ≤ j ∧ j ≤ 1000000 ∧ i.natAbs < 2 ^ 64 := of_decide_eq_true h; exact h2)) h1 h2

def cUn (g : D → Option T) (f1 : SE) : SE := fun ρ S => R.d (f1 ρ S) fun a S1 => match g a with | some t => .ok t S1 | none => .bad
def a1M : D → Option T
 | .int i => some (.val (.int (-i)))
 | _ => none
theorem V0 {a : Expr} {f1 : SE} (h1 : UV G a f1) : EV G (.UnaryOp .USub a pos) (cUn a1M f1) := by
 obtain ⟨t1, p1, q1⟩ := h1
 refine ⟨fun W => tUn (rU fun i => .int (-i)) (t1 W), fun X W k => pe_un un_neg (p1 X W k), fun W σ H ρ S o c Q nt rs p => ?_⟩
 refine (q1 W).d nt rs p fun a S1 v1 o1 c1 H1 s1 nt1 rs1 r1 p1 => ?_
 cases a with
 | int i =>
  rw [r1.intV]
  exact ⟨i, rfl, f7 rs1 p1 (.int _)⟩
 | _ => exact p1.elim

def CR (G : Cc) (op : CmpOp) (g : D → D → Option T) : Prop := ∃ r : R2, (∀ X W, G.Ok X W → OpR X (compareOp op) r) ∧ OpD G.K r g
theorem a8D {a b : Expr} {f1 f2 : SE} {op : CmpOp} {g : D → D → Option T} (hr : CR G op g) (h1 : UV G a f1) (h2 : UV G b f2)
  (hm : behindInMarks op b = false := by rfl) : EV G (.Compare a [op] [b] pos) (d5 g f1 f2) := by
 obtain ⟨t1, p1, q1⟩ := h1
 obtain ⟨t2, p2, q2⟩ := h2
 obtain ⟨r, ho, hr⟩ := hr
 exact ⟨fun W => tOp r (t1 W) (t2 W), fun X W k => pe_cmpR (ho X W k) (p1 X W k) (p2 X W k) hm, fun W => a4r (q1 W) (q2 W) hr⟩
def N3 (d : D) : Bool := A0 d && decide (d.depth ≤ 64)
def gEq (neg : Bool) : D → D → Option T := fun a b => if N3 a && N3 b then some (.val (.bool (if neg then !PyData.eqv a b else PyData.eqv a b))) else none
theorem q8 {K : PySem.W.Frag} {o : Gh} {H : Hp} {v : V} {d : D} (r : RepU K o H v d) (h : N3 d = true) : SeqAt.shaped d = true := by
 unfold N3 at h
 rw [Bool.and_eq_true] at h
 unfold SeqAt.shaped
 rw [r.can h.1, h.2]
 rfl
theorem b82 (K : PySem.W.Frag) : OpD K (rEqD K) (gEq false) := by
 intro G W o c ρ S σ H x y a b t Q hK rs r1 r2 e p
 subst hK
 unfold gEq at e
 split at e
 ·cases e
  rename_i h
  rw [Bool.and_eq_true] at h
  have n1 := h.1
  have n2 := h.2
  unfold N3 at n1 n2
  rw [Bool.and_eq_true] at n1 n2
  exact ⟨a, b, r1.dp n1.1, r2.dp n2.1, q8 r1 h.1, q8 r2 h.2, f7 rs p (.bl _)⟩
 ·cases e
theorem b8z (K : PySem.W.Frag) : OpD K (rNeD K) (gEq true) := by
 intro G W o c ρ S σ H x y a b t Q hK rs r1 r2 e p
 subst hK
 unfold gEq at e
 split at e
 ·cases e
  rename_i h
  rw [Bool.and_eq_true] at h
  have n1 := h.1
  have n2 := h.2
  unfold N3 at n1 n2
  rw [Bool.and_eq_true] at n1 n2
  exact ⟨a, b, r1.dp n1.1, r2.dp n2.1, q8 r1 h.1, q8 r2 h.2, f7 rs p (.bl _)⟩
 ·cases e
theorem a6i : CR G .Eq (gEq false) := ⟨rEqD G.K, fun X W k => by have := op_eqD (X := X) k.units; rw [k.K] at this; exact this, b82 _⟩
theorem a3S : CR G .NotEq (gEq true) := ⟨rNeD G.K, fun X W k => by have := op_neD (X := X) k.units; rw [k.K] at this; exact this, b8z _⟩
def b8b (p : Int → Int → Bool) : D → D → Option T
 | .int i, .int j => some (.val (.bool (p i j)))
 | _, _ => none
theorem a2N {K : PySem.W.Frag} {p : Int → Int → Bool} : OpD K (rI0 fun i j => .bl (p i j)) (b8b p) := by
 intro G W o c ρ S σ H x y a b t Q hK rs r1 r2 e q
 subst hK
 unfold b8b at e
 split at e
 ·cases e
  rw [r1.intV, r2.intV]
  exact ⟨_, _, rfl, rfl, f7 rs q (.bl _)⟩
 ·cases e
def gLt := b8b fun i j => decide (i < j)
def gLe := b8b fun i j => decide (i ≤ j)
def gGt := b8b fun i j => decide (j < i)
def gGe := b8b fun i j => decide (j ≤ i)
theorem b0E : CR G .Lt gLt := ⟨_, fun X W k => op_lt, a2N⟩
theorem b3t : CR G .LtE gLe := ⟨_, fun X W k => op_le, a2N⟩
theorem b6P : CR G .Gt gGt := ⟨_, fun X W k => op_gt, a2N⟩
theorem b0T : CR G .GtE gGe := ⟨_, fun X W k => op_ge, a2N⟩
def keyOf : D → Option (Key ⊕ List Key)
 | .int i => some (.inl (.inl i))
 | .str x => some (.inl (.inr x))
 | .tuple ds => (keysOf ds).map .inr
 | _ => none
where
 keysOf : List D → Option (List Key)
  | [] => some []
  | .int i :: ds => (keysOf ds).map (.inl i :: ·)
  | .str x :: ds => (keysOf ds).map (.inr x :: ·)
  | _ :: _ => none
def b1a (kvs : List (D × D)) (k : Key ⊕ List Key) : Option D := (kvs.find? fun p => decide (keyOf p.1 = some k)).map (·.2)
def b74 (kvs : List (D × D)) (k : Key ⊕ List Key) (kd v : D) : List (D × D) :=
 if kvs.any (fun p => decide (keyOf p.1 = some k)) then kvs.map (fun p => if keyOf p.1 = some k then (p.1, v) else p) else kvs ++ [(kd, v)]
theorem a09 (k : Key) : keyOf (b1f k) = some (.inl k) := by cases k <;> rfl
theorem a1k {d : D} {k : Key} (h : keyOf d = some (.inl k)) : d = b1f k := by
 cases d with
 | int i => cases h; rfl
 | str x => cases h; rfl
 | tuple ds =>
  cases e : keyOf.keysOf ds with
  | none => simp only [keyOf, e, Option.map_none] at h; cases h
  | some l => simp only [keyOf, e, Option.map_some] at h; cases h
 | _ => cases h
theorem L6 {K : PySem.W.Frag} {o : Gh} {H : Hp} {κ : Type} [DecidableEq κ] (f : κ → D) (g : κ → Key ⊕ List Key) (hf : ∀ k, keyOf (f k) = some (g k)) (hg : ∀ a b, g a = g b → a = b) (k : κ) :
  ∀ (kvs : List (κ × V)) (ds : List D), RepAll K o H (kvs.map (·.2)) ds →
   (∀ d, b1a ((kvs.map (fun p => f p.1)).zip ds) (g k) = some d → ∃ v, valV kvs k = some v ∧ Rep K o H v d) ∧ (b1a ((kvs.map (fun p => f p.1)).zip ds) (g k) = none → valV kvs k = none)
 | [], ds, r => ⟨fun d h => by simp [b1a] at h, fun _ => rfl⟩
 | p :: kvs, [], r => by cases r
 | p :: kvs, d :: ds, r => by
  cases r with
  | cons _ _ _ _ r1 r2 =>
   obtain ⟨i1, i2⟩ := L6 f g hf hg k kvs ds r2
   have e1 : b1a (((p :: kvs).map (fun p => f p.1)).zip (d :: ds)) (g k) = if keyOf (f p.1) = some (g k) then some d else b1a ((kvs.map (fun p => f p.1)).zip ds) (g k) := by
    unfold b1a
    rw [List.map_cons, List.zip_cons_cons, List.find?_cons]
    by_cases h : keyOf (f p.1) = some (g k)
    ·rw [decide_eq_true h, if_pos h]; rfl
    ·rw [decide_eq_false h, if_neg h]
   rw [e1]
   by_cases h : p.1 = k
   ·have h' : keyOf (f p.1) = some (g k) := by rw [hf, h]
    rw [if_pos h']
    exact ⟨fun d' q => by cases q; exact ⟨p.2, valV_pos h, r1⟩, fun q => nomatch q⟩
   ·have h' : ¬ keyOf (f p.1) = some (g k) := fun z => by
     rw [hf] at z
     exact h (hg _ _ (Option.some.inj z))
    rw [if_neg h', valV_neg h]
    exact ⟨i1, i2⟩
def a44 : List Key → Option (List Int)
 | [] => some []
 | .inl i :: ks => (a44 ks).map (i :: ·)
 | _ :: _ => none
def G3 (ns : List Int) : Key ⊕ List Key := .inr (ns.map Sum.inl)
theorem b6y : ∀ a b : List Int, a.map (Sum.inl (β := Str)) = b.map Sum.inl → a = b := fun a b h => by
 induction a generalizing b with
 | nil => cases b with
  | nil => rfl
  | cons y b => cases h
 | cons x a ih => cases b with
  | nil => cases h
  | cons y b =>
   rw [List.map_cons, List.map_cons] at h
   injection h with h1 h2
   cases h1
   rw [ih b h2]
theorem F9 : ∀ a b : List Int, G3 a = G3 b → a = b := fun a b h => b6y a b (Sum.inr.inj h)
theorem t8 : ∀ ns : List Int, keyOf (.tuple (ns.map PyData.int)) = some (G3 ns) := fun ns => by
 have : keyOf.keysOf (ns.map PyData.int) = some (ns.map Sum.inl) := by
  induction ns with
  | nil => rfl
  | cons x ns ih =>
   show (keyOf.keysOf (ns.map PyData.int)).map _ = _
   rw [ih]
   rfl
 show (keyOf.keysOf (ns.map PyData.int)).map Sum.inr = _
 rw [this]
 rfl
theorem a2n : ∀ {ks : List Key} {ns : List Int}, a44 ks = some ns → ks = ns.map Sum.inl
 | [], ns, h => by cases h; rfl
 | .inl i :: ks, ns, h => by
  have h : (a44 ks).map (i :: ·) = some ns := h
  cases q : a44 ks with
  | none => rw [q] at h; cases h
  | some zs => rw [q] at h; cases h; rw [List.map_cons, a2n q]
 | .inr _ :: _, _, h => nomatch h
theorem a1c : ∀ {ds : List D} {ns : List Int}, keyOf.keysOf ds = some (ns.map Sum.inl) → ds = ns.map PyData.int
 | [], [], _ => rfl
 | [], _ :: _, h => by cases h
 | .int i :: ds, ns, h => by
  have h : (keyOf.keysOf ds).map (.inl i :: ·) = some (ns.map Sum.inl) := h
  cases q : keyOf.keysOf ds with
  | none => rw [q] at h; cases h
  | some zs =>
   rw [q] at h
   cases ns with
   | nil => cases h
   | cons n ns =>
    have h := Option.some.inj h
    rw [List.map_cons] at h
    injection h with h1 h2
    cases h1
    subst h2
    rw [List.map_cons, a1c q]
 | .str x :: ds, ns, h => by
  have h : (keyOf.keysOf ds).map (.inr x :: ·) = some (ns.map Sum.inl) := h
  cases q : keyOf.keysOf ds with
  | none => rw [q] at h; cases h
  | some zs =>
   rw [q] at h
   cases ns with
   | nil => cases h
   | cons n ns =>
    have h := Option.some.inj h
    rw [List.map_cons] at h
    injection h with h1 h2
    cases h1
 | .none :: _, _, h => nomatch h
 | .bool _ :: _, _, h => nomatch h
 | .list _ :: _, _, h => nomatch h
 | .tuple _ :: _, _, h => nomatch h
 | .dict _ :: _, _, h => nomatch h
theorem G2 {kd : D} {ns : List Int} (h : keyOf kd = some (G3 ns)) : kd = .tuple (ns.map PyData.int) := by
 cases kd with
 | tuple ds =>
  have h : (keyOf.keysOf ds).map Sum.inr = some (G3 ns) := h
  cases q : keyOf.keysOf ds with
  | none => rw [q] at h; cases h
  | some zs =>
   rw [q] at h
   have h := Option.some.inj h
   have h : zs = ns.map Sum.inl := Sum.inr.inj h
   subst h
   rw [a1c q]
 | int i => cases h
 | str x => cases h
 | none => cases h
 | bool _ => cases h
 | list _ => cases h
 | dict _ => cases h
section
variable {K : PySem.W.Frag} {H : Hp}
theorem KX.val {kvs : List (List Int × V)} {xs : List (List Int × Addr × Value)} (r : KX K H kvs xs) (k : List Int) : RelO (valV kvs k) ((atKey xs k).map (·.2)) := by
 induction r with
 | nil => exact True.intro
 | @cons p q ps qs h t ih =>
  obtain ⟨h1, _, h2⟩ := h
  by_cases e : p.1 = k
  ·have e' : q.1 = k := h1.symm.trans e
   have b : atKey (q :: qs) k = some q.2 := by simp [atKey, List.find?_cons, e']
   rw [valV_pos e, b]; exact h2
  ·have e' : ¬ q.1 = k := fun z => e (h1.trans z)
   have b : atKey (q :: qs) k = atKey qs k := by simp [atKey, List.find?_cons, e']
   rw [valV_neg e, b]; exact ih
theorem KX.repl {kvs : List (List Int × V)} {xs : List (List Int × Addr × Value)} (r : KX K H kvs xs) (k : List Int) {y : V} {u : Value} (ry : RelV y u) :
  KX K H (kvs.map fun kv => if kv.1 = k then (kv.1, y) else kv) (xs.map (putAt k u)) := by
 induction r with
 | nil => exact .nil
 | @cons p q ps qs h t ih =>
  rw [List.map_cons, List.map_cons]
  refine .cons ?_ ih
  obtain ⟨h1, h2, h3⟩ := h
  unfold putAt
  by_cases e : p.1 = k
  ·rw [if_pos e, if_pos (h1.symm.trans e)]; exact ⟨h1, h2, ry⟩
  ·rw [if_neg e, if_neg (fun z => e (h1.trans z))]; exact ⟨h1, h2, h3⟩
theorem KX.put {kvs : List (List Int × V)} {xs : List (List Int × Addr × Value)} (r : KX K H kvs xs) (k : List Int) {b : Addr} {y : V} {u : Value} (hb : SqT K H b (k.map V.int)) (ry : RelV y u) :
  KX K H (putK kvs k y) (storedH xs k b u) := by
 have e : (kvs.any fun kv => decide (kv.1 = k)) = (atKey xs k).isSome := by
  rw [valV_any, (r.val k).isSome_eq, Option.isSome_map]
 unfold putK storedH
 rw [e]
 by_cases q : (atKey xs k).isSome = true
 ·rw [if_pos q, if_pos q]; exact r.repl k ry
 ·rw [if_neg q, if_neg q]; exact Paired.snoc r ⟨rfl, hb, ry⟩
end
section
open PySem.Spec PyProof.Rows
variable {X : Cx} {pins : List (Addr × Obj)} {σ : L2.St} {H : Hp} {s : Shared} {a b : Addr} {v : V} {u r : Value} {A : Around} {E : Value → Shared → Prop} {kvs : List (List Int × V)} {xs : List (List Int × Addr × Value)} {k : List Int}
theorem a2k {P : Program} {w : World} : ∀ {ns : List Int} {us : List Value}, Vals (ns.map V.int) us → ItemsAre (PySem.intKind P w) ns us
 | [], _, r => by rw [List.map_nil] at r; cases r; exact .nil
 | k :: ks, _, r => by
  rw [List.map_cons] at r
  cases r with
  | cons h t =>
   obtain ⟨t', q⟩ := (show ∃ t, _ = Value.int k t from h)
   subst q
   exact .cons (by simp [PySem.intKind, Value.isInt]) (a2k t)
theorem b8k {P : Program} {w : World} (I : Inv X pins σ H s) (e : SqT X.K H b (k.map V.int)) : (tupleKind (PySem.intKind P w)).is s.heap k b := by
 obtain ⟨its, r, ⟨o, h1, h2, n, h3⟩, _⟩ := I.tuple e
 exact ⟨o, its.toArray, n, h1, h2, h3, by simpa using a2k r⟩
theorem dX (I : Inv X pins σ H s) (e : HX H a xs) (q : KX X.K H kvs xs) : s.heap.DictOfH (tupleKind (PySem.intKind X.prog X.w)) a xs := by
 obtain ⟨ep, e⟩ := e
 obtain ⟨⟨o, es, h1, h2, h3, h4, h5⟩, _⟩ := (show ObjOk X.prog X.w H s.heap a (.ext (tdf ep a xs)) from I.hok a _ e)
 refine ⟨o, es, ep, h1, h2, h3, h4, fun x hx => ?_, h5⟩
 have all : ∀ {l : List (List Int × V)} {m : List (List Int × Addr × Value)}, KX X.K H l m → ∀ x ∈ m, (tupleKind (PySem.intKind X.prog X.w)).is s.heap x.1 x.2.1 := by
  intro l m q
  induction q with
  | nil => intro x hx; exact nomatch hx
  | @cons p q ps qs hq t ih =>
   intro x hx
   rcases List.mem_cons.mp hx with e | hx
   ·subst e
    exact b8k I (by rw [← hq.1]; exact hq.2.1)
   ·exact ih x hx
 exact all q x hx
theorem c4u {Q : Value → Shared → Prop} (hu : A.units + 1 < cLine) (I : Inv X pins σ H s) (e : HX H a xs) (q : KX X.K H kvs xs) (hd : (a == sysModules) = false) (eb : SqT X.K H b (k.map V.int)) (h : ∀ s', Inv X pins σ H s' → Q (.bool (valV kvs k).isSome) s') :
  wpAny (model X.prog X.w) A (compareOp .In (.ref b) (.ref a)) Q E s := by
 refine wpAny_in_heap (tupleKind_room_in1 hu) (b8k I eb) hd (dX I e q) ?_
 have z := (q.val k).isSome_eq
 rw [Option.isSome_map] at z
 rw [← z]
 exact h _ (I.tok _)
theorem b7i {Q : Value → Shared → Prop} (hu : A.units + 1 < cLine) (I : Inv X pins σ H s) (e : HX H a xs) (q : KX X.K H kvs xs) (hd : (a == sysModules) = false) (eb : SqT X.K H b (k.map V.int)) (h : ∀ s', Inv X pins σ H s' → Q (.bool (!(valV kvs k).isSome)) s') :
  wpAny (model X.prog X.w) A (compareOp .NotIn (.ref b) (.ref a)) Q E s := by
 refine wpAny_notIn_heap (tupleKind_room_in1 hu) (b8k I eb) hd (dX I e q) ?_
 have z := (q.val k).isSome_eq
 rw [Option.isSome_map] at z
 rw [← z]
 exact h _ (I.tok _)
theorem c1P {Q : Unit → Shared → Prop} (hu : A.units + 1 < cLine) (I : Inv X pins σ H s) (e : HX H a xs) (q : KX X.K H kvs xs) (hl : xs.length ≤ sizeLine) (eb : SqT X.K H b (k.map V.int)) (rv : RelV v r)
  (h : ∀ ep s', Inv X pins σ (upd H a (.ext (tdf ep a (storedH xs k b r)))) s' → Q () s') : wpAny (model X.prog X.w) A (setItem (.ref a) (.ref b) r) Q E s := by
 refine wpAny_setItem_heap (hsz := hl) (tupleKind_room_in1 hu) (b8k I eb) (dX I e q) fun h' dd' hs => ?_
 obtain ⟨o, es, ep, hq, h2, h3, h4, _, h5⟩ := dd'
 exact h ep _ (d_write I (by obtain ⟨_, e⟩ := e; rw [e]; exact True.intro) hs ⟨o, hq⟩ ⟨⟨o, es, hq, h2, h3, h4, h5⟩, ⟨o, hq⟩, a0q⟩)
end
def a1T : Key ⊕ List Key → Bool
 | .inr ks => (a44 ks).isSome
 | _ => false
theorem J9 {k : Key ⊕ List Key} (h : a1T k = true) : ∃ ns, k = G3 ns := by
 cases k with
 | inl k => cases h
 | inr ks =>
  have h : (a44 ks).isSome = true := h
  obtain ⟨ns, e⟩ := Option.isSome_iff_exists.mp h
  exact ⟨ns, by rw [a2n e]; rfl⟩
theorem Q6 {K : PySem.W.Frag} {o : Gh} {H : Hp} : ∀ {us : List V} {ns : List Int}, RepAll K o H us (ns.map PyData.int) → us = ns.map V.int
 | _, [], .nil => rfl
 | _, n :: ns, r => by
  rw [List.map_cons] at r
  cases r with
  | cons v _ vs _ h1 h2 => rw [List.map_cons, h1.intV, Q6 h2]
def b38 : Bool → Key ⊕ List Key → Bool
 | false, .inl _ => true
 | _, _ => false
def dAt (kvs : List (D × D)) (kd : D) : Option (Option D) := match keyOf kd with
 | some k => if b38 (unD kvs).1 k then some (b1a (unD kvs).2 k) else none
 | none => none
def GetR (K : PySem.W.Frag) (o : Gh) (H : Hp) (a : Addr) (y : V) : Option D → Prop
 | some d => ∃ v, DGet H a y (some v) ∧ Rep K o H v d
 | none => DGet H a y none
theorem GetR.of {K : PySem.W.Frag} {o : Gh} {H : Hp} {a : Addr} {y : V} {od : Option D} {r : Option V} (h1 : ∀ d, od = some d → ∃ v, r = some v ∧ Rep K o H v d) (h2 : od = none → r = none) (g : DGet H a y r) : GetR K o H a y od := by
 cases od with
 | some d =>
  obtain ⟨v, e, q⟩ := h1 d rfl
  subst e
  exact ⟨v, g, q⟩
 | none =>
  have e := h2 rfl
  subst e
  exact g
theorem c1o {K : PySem.W.Frag} {o : Gh} {H : Hp} {y : V} {k : Key} {d : D} (r2 : RepU K o H y d) (e : d = b1f k) : y = kV k := by
 cases k with
 | inl i => subst e; exact r2.intV
 | inr x => subst e; exact r2.strV.1
theorem b5c {K : PySem.W.Frag} {o : Gh} {H : Hp} {x y : V} {kvs : List (D × D)} {kd : D} {od : Option D} (r : RepU K o H x (.dict kvs)) (r2 : RepU K o H y kd) (h : dAt kvs kd = some od) :
  ∃ a, x = .ref a ∧ IsD H a ∧ GetR K o H a y od := by
 obtain ⟨q, a, ks, vs, ds, rfl, hd, _, hz, hl, ra, e⟩ := r.dctV
 have hu := hd.un (ds := ds)
 rw [← e] at hu
 unfold dAt at h
 cases ek : keyOf kd with
 | none => rw [ek] at h; cases h
 | some k =>
  rw [ek, hu] at h
  dsimp only at h
  cases q with
  | false =>
   cases k with
   | inr k => cases h
   | inl k =>
    obtain ⟨kvs', hr, rfl, rfl⟩ := hd
    have h' : b1a ((kvs'.map (fun p => b1f p.1)).zip ds) (.inl k) = od := Option.some.inj h
    have ev : y = kV k := c1o r2 (a1k ek)
    obtain ⟨g1, g2⟩ := L6 (fun k => b1f k) (fun k => .inl k) a09 (fun a b h => Sum.inl.inj h) k kvs' ds ra
    rw [h'] at g1 g2
    exact ⟨a, rfl, .inl ⟨kvs', hr⟩, .of g1 g2 (.inl ⟨kvs', k, hr, ev, rfl⟩)⟩
  | true =>
   cases k with
   | inl k => cases h
   | inr k => cases h
def a05 (K : PySem.W.Frag) (neg : Bool) : R2 := fun y x H Q => ∃ a, x = .ref a ∧ ((∃ o, DGet H a y o ∧ Q (.bl (if neg then !o.isSome else o.isSome)) H) ∨
 ∃ (kvs : List (List Int × V)) (xs : List (List Int × Addr × Value)) (b : Addr) (k : List Int), HX H a xs ∧ KX K H kvs xs ∧ (a == sysModules) = false ∧ y = .ref b ∧ SqT K H b (k.map V.int) ∧ Q (.bl (if neg then !(valV kvs k).isSome else (valV kvs k).isSome)) H)
theorem a12 {X : Cx} (hu : X.A.units + 1 < cLine) : OpR X (compareOp .In) (a05 X.K false) := by
 intro pins s σ H y x u v Q I ry rx h
 obtain ⟨a, rfl, h⟩ := h
 cases (show v = Value.ref a from rx)
 rcases h with ⟨o, g, q⟩ | ⟨kvs, xs, b, k, e, g, hd, ey, eb, q⟩
 ·exact d_in hu I g ry fun s' I' => ⟨.bl o.isSome, H, I', rfl, q⟩
 ·subst ey
  cases (show u = Value.ref b from ry)
  exact c4u hu I e g hd eb fun s' I' => ⟨.bl (valV kvs k).isSome, H, I', rfl, q⟩
theorem a2Q {X : Cx} (hu : X.A.units + 1 < cLine) : OpR X (compareOp .NotIn) (a05 X.K true) := by
 intro pins s σ H y x u v Q I ry rx h
 obtain ⟨a, rfl, h⟩ := h
 cases (show v = Value.ref a from rx)
 rcases h with ⟨o, g, q⟩ | ⟨kvs, xs, b, k, e, g, hd, ey, eb, q⟩
 ·exact d_notIn hu I g ry fun s' I' => ⟨.bl (!o.isSome), H, I', rfl, q⟩
 ·subst ey
  cases (show u = Value.ref b from ry)
  exact b7i hu I e g hd eb fun s' I' => ⟨.bl (!(valV kvs k).isSome), H, I', rfl, q⟩
def a0r (kvs : List (D × D)) (kd : D) : Option (Option D) := match keyOf kd with
 | some k => if (b38 (unD kvs).1 k || ((unD kvs).1 && a1T k)) = true then some (b1a (unD kvs).2 k) else none
 | none => none
theorem c13 {K : PySem.W.Frag} {o : Gh} {H : Hp} {x y : V} {kvs : List (D × D)} {kd : D} {od : Option D} {neg : Bool} {Q : VK} (r : RepU K o H x (.dict kvs)) (r2 : RepU K o H y kd) (h : a0r kvs kd = some od) (q : Q (.bl (if neg then !od.isSome else od.isSome)) H) :
  a05 K neg y x H Q := by
 cases e0 : dAt kvs kd with
 | some od' =>
  obtain ⟨p, rfl, _, g⟩ := b5c r r2 e0
  have : od' = od := by
   unfold dAt at e0
   unfold a0r at h
   cases ek : keyOf kd with
   | none => rw [ek] at h; cases h
   | some k =>
    rw [ek] at h e0
    dsimp only at h e0
    split at e0
    ·rename_i hf
     cases e0
     rw [if_pos (by rw [hf]; rfl)] at h
     cases h
     rfl
    ·cases e0
  subst this
  refine ⟨p, rfl, .inl ?_⟩
  cases od' with
  | some d =>
   obtain ⟨v, g, _⟩ := g
   exact ⟨_, g, q⟩
  | none => exact ⟨_, g, q⟩
 | none =>
  obtain ⟨qq, a, ks, vs, ds, rfl, hd, _, hz, hl, ra, e⟩ := r.dctV
  have hu := hd.un (ds := ds)
  rw [← e] at hu
  unfold a0r at h
  unfold dAt at e0
  cases ek : keyOf kd with
  | none => rw [ek] at h; cases h
  | some k =>
   rw [ek, hu] at h e0
   dsimp only at h e0
   have hf : ¬ b38 qq k = true := fun z => by rw [if_pos z] at e0; cases e0
   split at h
   ·rename_i hc
    rw [Bool.or_eq_true, Bool.and_eq_true] at hc
    rcases hc with hc | ⟨hq, hc⟩
    ·exact absurd hc hf
    ·subst hq
     obtain ⟨ns, rfl⟩ := J9 hc
     have h' := Option.some.inj h
     obtain ⟨kvs', xs, hH, kx, hs, rfl, rfl⟩ := hd
     have ey := G2 ek
     subst ey
     obtain ⟨b, us, rfl, sb, _, rb⟩ := r2.tupV
     have eu : us = ns.map V.int := Q6 rb
     subst eu
     obtain ⟨g1, g2⟩ := L6 (fun k => .tuple (k.map PyData.int)) G3 t8 F9 ns kvs' ds ra
     rw [h'] at g1 g2
     have hv : (valV kvs' ns).isSome = od.isSome := by
      cases od with
      | some d => obtain ⟨v, e1, _⟩ := g1 d rfl; rw [e1]; rfl
      | none => rw [g2 rfl]; rfl
     refine ⟨a, rfl, .inr ⟨kvs', xs, b, ns, hH, kx, hs, rfl, sb, ?_⟩⟩
     rw [hv]
     exact q
   ·cases h
def Q7 : D → Bool
 | .none => true
 | .bool _ => true
 | .int _ => true
 | .str _ => true
 | _ => false
theorem a3A {K : PySem.W.Frag} {o : Gh} {H : Hp} {v : V} {d : D} (r : RepU K o H v d) (h : Q7 d = true) : flatV v = true := by
 cases r with
 | of _ _ r => cases r <;> first | rfl | cases h
 | lst => cases h
 | dct => cases h
theorem a2U {K : PySem.W.Frag} {o : Gh} {H : Hp} : ∀ {vs : List V} {ds : List D}, RepAll K o H vs ds → ds.all Q7 = true → vs.all flatV = true
 | _, _, .nil, _ => rfl
 | _, _, .cons v d vs ds r ra, h => by
  rw [List.all_cons, Bool.and_eq_true] at h ⊢
  exact ⟨a3A (.of _ _ r) h.1, a2U ra h.2⟩
theorem b6j {K : PySem.W.Frag} {o : Gh} {H : Hp} {v w : V} {d e : D} (r : Rep K o H v d) (r' : RepU K o H w e) (h : Q7 d = true) (h' : Q7 e = true) : eqV v w = PyData.eqv d e := by
 cases r' with
 | lst => cases h'
 | dct => cases h'
 | of _ _ r' => cases r <;> cases r' <;> first | rfl | (cases h; done) | (cases h'; done) | (simp [eqV, PyData.eqv]; done)
def gIn (neg : Bool) : D → D → Option T
 | a, .list ds => if (Q7 a && ds.all Q7) || (N3 a && N3 (.list ds)) then some (.val (.bool (if neg then !(ds.any fun d => PyData.eqv d a) else ds.any fun d => PyData.eqv d a))) else none
 | a, .tuple ds => if (Q7 a && ds.all Q7) || (N3 a && N3 (.tuple ds)) then some (.val (.bool (if neg then !(ds.any fun d => PyData.eqv d a) else ds.any fun d => PyData.eqv d a))) else none
 | kd, .dict kvs => (a0r kvs kd).map fun o => .val (.bool (if neg then !o.isSome else o.isSome))
 | .str x, .str y => if x.length = 1 then some (.val (.bool (if neg then !decide (x.cps.getD 0 0 ∈ y.cps.toList) else decide (x.cps.getD 0 0 ∈ y.cps.toList)))) else none
 | _, _ => none
theorem a7j {K : PySem.W.Frag} {o : Gh} {H : Hp} {v : V} {d : D} (r : RepU K o H v d) (h : Q7 d = true) : ∀ {vs : List V} {ds : List D}, RepAll K o H vs ds → ds.all Q7 = true → inV v vs = ds.any fun e => PyData.eqv e d
 | _, _, .nil, _ => rfl
 | _, _, .cons w e vs ds r' ra, q => by
  rw [List.all_cons, Bool.and_eq_true] at q
  have ih := a7j r h ra q.2
  unfold inV at ih ⊢
  rw [List.any_cons, List.any_cons, ih, b6j r' r q.1 h]
theorem b4q {x : Str} (h : x.length = 1) : x = ⟨#[x.cps.getD 0 0]⟩ := by
 obtain ⟨⟨l⟩⟩ := x
 match l, h with
 | [c], _ => rfl
def c2S (K : PySem.W.Frag) (neg : Bool) : R2 := fun x y H Q => ∃ (a : Addr) (d : PyData) (ds : List PyData), y = .ref a ∧ ((Dp K H (V.ref a) (.list ds) ∧ SeqAt.shaped (.list ds) = true) ∨ (Dp K H (V.ref a) (.tuple ds) ∧ SeqAt.shaped (.tuple ds) = true)) ∧ Dp K H x d ∧ SeqAt.shaped d = true ∧
 Q (.bl (if neg then !(ds.any fun e => PyData.eqv e d) else ds.any fun e => PyData.eqv e d)) H
theorem W1 {X : Cx} {pins : List (Addr × Obj)} {s : Shared} {σ : St} {H : Hp} (I : Inv X pins σ H s) (hu : X.A.units + 65 < cLine) {x : V} {v : Value} {d : PyData} {ds : List PyData} {vs : List V} {its : List Value} (hy : Dp X.K H x d) (rx : RelV x v) (sd : SeqAt.shaped d = true)
  (hxs : PyData.canLayAll0 ds = true) (ha : DpAll X.K H vs ds) (rv : Vals vs its) :
  (∀ u ∈ its.toArray, SeqAt.EqAt X.A.in1 s u v (PyData.eqv (SeqAt.readOf s.heap u) d)) ∧ (its.toArray.any fun u => PyData.eqv (SeqAt.readOf s.heap u) d) = ds.any fun e => PyData.eqv e d := by
 obtain ⟨bs, r1⟩ := Dp.reads I d x v hy rx
 obtain ⟨as, h4⟩ := Dp.readsAll I ds _ its ha rv
 have hm : its.map (SeqAt.readOf s.heap) = ds := SeqAt.readsAll_map ds its as hxs h4
 refine ⟨SeqAt.items_eqAt (vs := its.toArray) (show ReadsAll s.heap its.toArray.toList ds as from h4) r1 hxs (SeqAt.canLay_of_shaped sd) (PyProof.Rows.room_in_shaped sd hu), ?_⟩
 rw [← hm, List.any_map]
 simp only [List.any_toArray]
 rfl
theorem b5m {X : Cx} (hu : X.A.units + 65 < cLine) : OpR X (compareOp .In) (c2S X.K false) := by
 intro pins s σ H x y v u Q I rx ry hq
 obtain ⟨b, d, ds, rfl, hb, hx, sd, q⟩ := hq
 cases (show u = Value.ref b from ry)
 rcases hb with ⟨hb, sb⟩ | ⟨hb, sb⟩
 ·cases hb with
  | lst hs ha =>
   obtain ⟨its, rv, pl, _⟩ := I.list hs
   obtain ⟨g1, g2⟩ := W1 I hu hx rx sd (SeqAt.canLay_of_shaped sb) ha rv
   refine SeqAt.in_listAt _ pl.isList g1 ⟨.bl _, H, I, rfl, ?_⟩
   rw [g2]
   exact q
 ·cases hb with
  | tup hs ha =>
   obtain ⟨its, rv, pl, _⟩ := I.tuple hs
   obtain ⟨g1, g2⟩ := W1 I hu hx rx sd (SeqAt.canLay_of_shaped sb) ha rv
   refine SeqAt.in_tupleAt _ pl g1 ⟨.bl _, H, I, rfl, ?_⟩
   rw [g2]
   exact q
theorem b3b {X : Cx} (hu : X.A.units + 65 < cLine) : OpR X (compareOp .NotIn) (c2S X.K true) := by
 intro pins s σ H x y v u Q I rx ry hq
 obtain ⟨b, d, ds, rfl, hb, hx, sd, q⟩ := hq
 cases (show u = Value.ref b from ry)
 rcases hb with ⟨hb, sb⟩ | ⟨hb, sb⟩
 ·cases hb with
  | lst hs ha =>
   obtain ⟨its, rv, pl, _⟩ := I.list hs
   obtain ⟨g1, g2⟩ := W1 I hu hx rx sd (SeqAt.canLay_of_shaped sb) ha rv
   refine SeqAt.notIn_listAt _ pl.isList g1 ⟨.bl _, H, I, rfl, ?_⟩
   rw [g2]
   exact q
 ·cases hb with
  | tup hs ha =>
   obtain ⟨its, rv, pl, _⟩ := I.tuple hs
   obtain ⟨g1, g2⟩ := W1 I hu hx rx sd (SeqAt.canLay_of_shaped sb) ha rv
   refine SeqAt.notIn_tupleAt _ pl g1 ⟨.bl _, H, I, rfl, ?_⟩
   rw [g2]
   exact q
def b7O (K : PySem.W.Frag) (neg : Bool) : R2 := fun x y H Q => ((rIn K neg x y H Q ∨ a05 K neg x y H Q) ∨ c2S K neg x y H Q) ∨ ∃ (c : Nat) (z : Str), x = .str ⟨#[c]⟩ ∧ y = .str z ∧ Q (.bl (if neg then !decide (c ∈ z.cps.toList) else decide (c ∈ z.cps.toList))) H
theorem b5j (K : PySem.W.Frag) (neg : Bool) : OpD K (b7O K neg) (gIn neg) := by
 intro G W o c ρ S σ H x y a b t Q hK rs r1 r2 e q
 subst hK
 unfold gIn at e
 split at e
 ·split at e
  ·cases e
   rename_i h
   rw [Bool.or_eq_true, Bool.and_eq_true, Bool.and_eq_true] at h
   rcases h with h | h
   ·obtain ⟨a2, v2, e2, h2, n2, z2, q2⟩ := r2.lstV
    rw [e2]
    refine .inl (.inl (.inl ⟨a2, v2, rfl, .inl (.of h2), a3A r1 h.1, a2U q2 h.2, ?_⟩))
    rw [a7j r1 h.1 q2 h.2]
    exact f7 rs q (.bl _)
   ·have n1 := h.1
    have n2 := h.2
    unfold N3 at n1 n2
    rw [Bool.and_eq_true] at n1 n2
    obtain ⟨a2, v2, e2, _⟩ := r2.lstV
    subst e2
    exact .inl (.inr ⟨a2, _, _, rfl, .inl ⟨r2.dp n2.1, q8 r2 h.2⟩, r1.dp n1.1, q8 r1 h.1, f7 rs q (.bl _)⟩)
  ·cases e
 ·split at e
  ·cases e
   rename_i h
   rw [Bool.or_eq_true, Bool.and_eq_true, Bool.and_eq_true] at h
   rcases h with h | h
   ·obtain ⟨a2, v2, e2, h2, z2, q2⟩ := r2.tupV
    rw [e2]
    refine .inl (.inl (.inl ⟨a2, v2, rfl, .inr h2, a3A r1 h.1, a2U q2 h.2, ?_⟩))
    rw [a7j r1 h.1 q2 h.2]
    exact f7 rs q (.bl _)
   ·have n1 := h.1
    have n2 := h.2
    unfold N3 at n1 n2
    rw [Bool.and_eq_true] at n1 n2
    obtain ⟨a2, v2, e2, _⟩ := r2.tupV
    subst e2
    exact .inl (.inr ⟨a2, _, _, rfl, .inr ⟨r2.dp n2.1, q8 r2 h.2⟩, r1.dp n1.1, q8 r1 h.1, f7 rs q (.bl _)⟩)
  ·cases e
 ·rename_i kvs
  cases e1 : a0r kvs a with
  | none => rw [e1] at e; cases e
  | some od =>
   rw [e1] at e
   cases e
   exact .inl (.inl (.inr (c13 r2 r1 e1 (f7 rs q (.bl _)))))
 ·split at e
  ·cases e
   rename_i h
   obtain ⟨e1, o1, l1⟩ := r1.strV
   obtain ⟨e2, o2, l2⟩ := r2.strV
   rw [e1, e2]
   exact .inr ⟨_, _, by rw [← b4q h], rfl, f7 rs q (.bl _)⟩
  ·cases e
 ·cases e
theorem a2W (k : G.Ok X W) : X.A.units + 65 < cLine := by
 have := k.room.un
 omega
theorem c1w : CR G .In (gIn false) := ⟨b7O G.K false, fun X W k => by
 have h := op_in_seq (X := X)
 have h2 := b5m (X := X) (a2W k)
 have h3 := a12 (X := X) (by have := k.units; omega)
 rw [k.K] at h h2 h3
 exact ((h.or h3).or h2).or op_in_sign, b5j _ _⟩
theorem b4a : CR G .NotIn (gIn true) := ⟨b7O G.K true, fun X W k => by
 have h := op_notIn_seq (X := X)
 have h2 := b3b (X := X) (a2W k)
 have h3 := a2Q (X := X) (by have := k.units; omega)
 rw [k.K] at h h2 h3
 exact ((h.or h3).or h2).or op_notIn_sign, b5j _ _⟩
def isNone : D → Bool
 | .none => true
 | _ => false
def b71 : D → Option T := fun d => some (.val (.bool (isNone d)))
def a3M : D → Option T := fun d => some (.val (.bool (!isNone d)))
theorem a2r {K : PySem.W.Frag} {o : Gh} {H : Hp} {v : V} {d : D} (r : RepU K o H v d) : decide (v = .non) = isNone d := by
 cases r with
 | of _ _ r => cases r <;> rfl
 | lst => rfl
 | dct => rfl
end
end BV
namespace BV
open PySem L2

def a30 : D → Option Bool
 | .none => some false
 | .bool b => some b
 | .int i => some (i != 0)
 | .str x => some (x.length != 0)
 | .list xs => some (!xs.isEmpty)
 | .tuple xs => some (!xs.isEmpty)
 | .dict _ => none
theorem a38 {K : PySem.W.Frag} {o : Gh} {H : Hp} {vs : List V} {ds : List D} (r : RepAll K o H vs ds) : vs.isEmpty = ds.isEmpty := by
 cases r <;> rfl
theorem a7u {K : PySem.W.Frag} {o : Gh} {H : Hp} {v : V} {d : D} {b : Bool} (r : RepU K o H v d) (h : a30 d = some b) : TruV K v H b := by
 cases d with
 | none => cases h; rw [r.nonV]; rfl
 | bool c => cases h; rw [r.blV]; rfl
 | int i => cases h; rw [r.intV]; rfl
 | str x =>
  obtain ⟨e, _, z⟩ := r.strV
  cases h
  rw [e]
  refine ⟨z, ?_⟩
  rw [Bool.eq_iff_iff]
  simp
 | list xs =>
  obtain ⟨a, vs, e, h1, _, _, ra⟩ := r.lstV
  cases h
  rw [e]
  exact .inl ⟨vs, .of h1, by rw [a38 ra]⟩
 | tuple xs =>
  obtain ⟨a, vs, e, h1, _, ra⟩ := r.tupV
  cases h
  rw [e]
  exact .inr (.inl ⟨vs, h1, by rw [a38 ra]⟩)
 | dict _ => cases h

abbrev SB := En → Sto → R Bool
def PostB (G : Cc) (W : WX) (o : Gh) (c : Cs) (ρ : En) (σ : L2.St) (H : Hp) (r : R Bool) (Q : Bool → Hp → Prop) : Prop := match r with
 | .ok b S' => ∀ o' c' H', Step d3 o c H o' c' H' → NT o' → RS G.K o' c' ρ S' σ H' → Q b H'
 | .exc e S' => ∀ cls d o' c' H', Step d3 o c H o' c' H' → RS G.K o' c' ρ S' σ H' → NT o' → b3n G.mg H' cls d e → W cls d σ H'
 | .bad => False
def TR (G : Cc) (W : WX) (t : TT) (f : SB) : Prop := ∀ (σ : L2.St) (H : Hp) (ρ : En) (S : Sto) (o : Gh) (c : Cs) (Q : Bool → Hp → Prop), NT o → RS G.K o c ρ S σ H → PostB G W o c ρ σ H (f ρ S) Q → t σ H Q
def TV (G : Cc) (e : Expr) (f : SB) : Prop := ∃ t : WX → TT, (∀ X W, G.Ok X W → PT X e (t W)) ∧ ∀ W, TR G W (t W) f
def WV (G : Cc) (e : Expr) (f : SB) : Prop := ∃ t : WX → TT, (∀ X W, G.Ok X W → PW X e (t W)) ∧ ∀ W, TR G W (t W) f
def R.b (r : R T) : R Bool := match r with
 | .ok t S => (match asD t with | some (.bool b) => .ok b S | _ => .bad)
 | .exc e S => .exc e S
 | .bad => .bad
def R.tr (r : R T) : R Bool := match r with
 | .ok t S => (match (asD t).bind a30 with | some b => .ok b S | none => .bad)
 | .exc e S => .exc e S
 | .bad => .bad
def cT (f : SE) : SB := fun ρ S => (f ρ S).tr
section
variable {G : Cc} {W : WX} {o o1 : Gh} {c c1 : Cs} {ρ : En} {σ : L2.St} {H H1 : Hp} {pos : Pos} {a b : Expr} {f1 f2 f3 : SE} {g1 g2 : SB} {e : Expr}
theorem PostB.step {r : R Bool} {Q : Bool → Hp → Prop} (a : Step d3 o c H o1 c1 H1) (h : PostB G W o c ρ σ H r Q) : PostB G W o1 c1 ρ σ H1 r Q := by
 cases r with
 | ok t S' => exact fun o' c' H' s => h o' c' H' (a.trans s)
 | exc e S' => exact fun cls d o' c' H' s => h cls d o' c' H' (a.trans s)
 | bad => exact h
theorem TR.of {t : TE} {f : SE} (h : URd G W t f) : TR G W (fun σ H Q => t σ H fun x H' => ∃ k, TruV G.K x H' k ∧ Q k H') (cT f) := by
 intro σ H ρ S o c Q nt rs p
 refine h σ H ρ S o c _ nt rs ?_
 unfold cT at p
 cases e : f ρ S with
 | bad => rw [e] at p; exact p.elim
 | exc e' S' => rw [e] at p; exact p
 | ok t0 S' =>
  rw [e] at p
  cases e1 : asD t0 with
  | none => unfold R.tr at p; simp only [e1, Option.bind_none] at p; exact p.elim
  | some d0 =>
   refine ⟨d0, e1, ?_⟩
   cases e2 : a30 d0 with
   | none => unfold R.tr at p; simp only [e1, Option.bind_some, e2] at p; exact p.elim
   | some b0 =>
    have p' : PostB G W o c ρ σ H (.ok b0 S') Q := by unfold R.tr at p; simp only [e1, Option.bind_some, e2] at p; exact p
    exact fun v o1 c1 H1 s1 nt1 rs1 r1 => ⟨b0, a7u r1 e2, p' o1 c1 H1 s1 nt1 rs1⟩
def cB (f : SE) : SB := fun ρ S => (f ρ S).b
theorem TR.test {t : TE} {f : SE} (h : ER G W t f) : TR G W (tTest t) (cB f) := by
 intro σ H ρ S o c Q nt rs p
 refine h σ H ρ S o c _ nt rs ?_
 unfold cB at p
 cases e : f ρ S with
 | bad => rw [e] at p; exact p.elim
 | exc e' S' => rw [e] at p; exact p
 | ok t0 S' =>
  rw [e] at p
  intro v o' c' H' s rs' r'
  cases e1 : asD t0 with
  | none => unfold R.b at p; simp only [e1] at p; exact p.elim
  | some d0 =>
   have r2 := r'.toD rs'.cs.trk e1
   cases d0 with
   | bool b =>
    have p' : PostB G W o c ρ σ H (.ok b S') Q := by unfold R.b at p; simp only [e1] at p; exact p
    exact ⟨b, r2.blV, p' (unT o') c' H' (s.untmp nt) C2 rs'.untmp⟩
   | _ => unfold R.b at p; simp only [e1] at p; exact p.elim
theorem w1 (h : UV G e f1) (he : ∀ env whole, isTrue e env whole = (do let v ← whole; standAt e.pos; holding [v] (truthy v)) := by intro _ _; rfl) : TV G e (cT f1) := by
 obtain ⟨t, p, q⟩ := h
 refine ⟨fun W σ H Q => t W σ H fun x H' => ∃ k, TruV G.K x H' k ∧ Q k H', fun X W k => ?_, fun W => .of (q W)⟩
 have := pt_truth (p X W k) (he _)
 rw [k.K] at this
 exact this
theorem o8 {op : CmpOp} {g : D → D → Option T} (hr : CR G op g) (h1 : UV G a f1) (h2 : UV G b f2) (hm : behindInMarks op b = false := by rfl) : TV G (.Compare a [op] [b] pos) (cB (d5 g f1 f2)) := by
 obtain ⟨t1, p1, q1⟩ := h1
 obtain ⟨t2, p2, q2⟩ := h2
 obtain ⟨r, ho, hr⟩ := hr
 exact ⟨fun W => tTest (tOp r (t1 W) (t2 W)), fun X W k => pt_cmpR (ho X W k) (p1 X W k) (p2 X W k) hm, fun W => .test (a4r (q1 W) (q2 W) hr)⟩
theorem b9u {W : WX} {t1 : TE} (h : URd G W t1 f1) : ER G W (tIsN t1) (cUn b71 f1) := by
 intro σ H ρ S o c Q nt rs p
 refine h.d nt rs p fun a S1 v1 o1 c1 H1 s1 nt1 rs1 r1 p1 => ?_
 rw [a2r r1]
 exact f7 rs1 p1 (.bl _)
theorem b5S {W : WX} {t1 : TE} (h : URd G W t1 f1) : ER G W (tNotN t1) (cUn a3M f1) := by
 intro σ H ρ S o c Q nt rs p
 refine h.d nt rs p fun a S1 v1 o1 c1 H1 s1 nt1 rs1 r1 p1 => ?_
 rw [a2r r1]
 exact f7 rs1 p1 (.bl _)
theorem b2W {j : Nat} {pos' : Pos} (h1 : UV G a f1) : TV G (.Compare a [.Is] [.Constant .none j pos'] pos) (cB (cUn b71 f1)) := by
 obtain ⟨t1, p1, q1⟩ := h1
 exact ⟨fun W => tB (tIsN (t1 W)), fun X W k => pt_cmp (pc_isN (p1 X W k)) rfl, fun W => .test (b9u (q1 W))⟩
theorem a3b {j : Nat} {pos' : Pos} (h1 : UV G a f1) : TV G (.Compare a [.IsNot] [.Constant .none j pos'] pos) (cB (cUn a3M f1)) := by
 obtain ⟨t1, p1, q1⟩ := h1
 exact ⟨fun W => tB (tNotN (t1 W)), fun X W k => pt_cmp (pc_notN (p1 X W k)) rfl, fun W => .test (b5S (q1 W))⟩
def Z9 (g g' : D → D → Option T) (f1 f2 f3 : SE) : SE := fun ρ S => R.d (f1 ρ S) fun x S1 => R.d (f2 ρ S1) fun y S2 => match g x y with
 | some (.val (.bool true)) => R.d (f3 ρ S2) fun z S3 => (match g' y z with | some t => .ok t S3 | none => .bad)
 | some (.val (.bool false)) => .ok (.val (.bool false)) S2
 | _ => .bad
theorem a7W {W : WX} {t1 t2 t3 : TE} {r r' : R2} {g g' : D → D → Option T} (h1 : URd G W t1 f1) (h2 : URd G W t2 f2) (h3 : URd G W t3 f3) (hr : OpD G.K r g) (hr' : OpD G.K r' g') : ER G W (tChain r r' t1 t2 t3) (Z9 g g' f1 f2 f3) := by
 intro σ H ρ S o c Q nt rs p
 refine h1.d nt rs p fun a S1 v1 o1 c1 H1 s1 nt1 rs1 r1 p1 => ?_
 refine h2.d nt1 rs1 p1 fun b S2 v2 o2 c2 H2 s2 nt2 rs2 r2 p2 => ?_
 have r1' := r1.step rs1.cs.trk s2
 cases e : g a b with
 | none => simp only [e] at p2; exact p2.elim
 | some t =>
  simp only [e] at p2
  refine hr G W o2 c2 ρ S2 σ H2 v1 v2 a b t _ rfl rs2 r1' r2 e ?_
  intro v o3 c3 H3 s3 rs3 r3
  match t, p2, r3 with
  | .val (.bool true), p2, r3 =>
   have e3 : v = .bl true := (r3 : Rep G.K o3 H3 v _).blV
   have s3' := s3.untmp nt2
   refine ⟨true, e3, ?_⟩
   rw [if_pos rfl]
   refine h3.d C2 rs3.untmp (p2.step s3') fun d S3 v3 o4 c4 H4 s4 nt4 rs4 r4 p4 => ?_
   cases e5 : g' b d with
   | none => rw [e5] at p4; exact p4.elim
   | some t' =>
    rw [e5] at p4
    exact hr' G W o4 c4 ρ S3 σ H4 v2 v3 b d t' Q rfl rs4 ((r2.step rs2.cs.trk s3').step rs3.untmp.cs.trk s4) r4 e5 p4
  | .val (.bool false), p2, r3 =>
   have e3 : v = .bl false := (r3 : Rep G.K o3 H3 v _).blV
   refine ⟨false, e3, ?_⟩
   rw [if_neg Bool.false_ne_true]
   exact f7 rs3.untmp (p2.step (s3.untmp nt2)) (.bl false)
theorem b3Q {op op' : CmpOp} {cc : Expr} {g g' : D → D → Option T} (hr : CR G op g) (hr' : CR G op' g') (h1 : UV G a f1) (h2 : UV G b f2) (h3 : UV G cc f3) (hm : lastMarks [op, op'] [b, cc] = false := by with_unfolding_all rfl) :
  EV G (.Compare a [op, op'] [b, cc] pos) (Z9 g g' f1 f2 f3) := by
 obtain ⟨t1, p1, q1⟩ := h1
 obtain ⟨t2, p2, q2⟩ := h2
 obtain ⟨t3, p3, q3⟩ := h3
 obtain ⟨r, ho, hr⟩ := hr
 obtain ⟨r', ho', hr'⟩ := hr'
 exact ⟨fun W => tChain r r' (t1 W) (t2 W) (t3 W), fun X W k => pe_chain (ho X W k) (ho' X W k) (p1 X W k) (p2 X W k) (p3 X W k) hm, fun W => a7W (q1 W) (q2 W) (q3 W) hr hr'⟩
theorem b4C {op op' : CmpOp} {cc : Expr} {g g' : D → D → Option T} (hr : CR G op g) (hr' : CR G op' g') (h1 : UV G a f1) (h2 : UV G b f2) (h3 : UV G cc f3) (hm : lastMarks [op, op'] [b, cc] = false := by with_unfolding_all rfl) :
  TV G (.Compare a [op, op'] [b, cc] pos) (cB (Z9 g g' f1 f2 f3)) := by
 obtain ⟨t1, p1, q1⟩ := h1
 obtain ⟨t2, p2, q2⟩ := h2
 obtain ⟨t3, p3, q3⟩ := h3
 obtain ⟨r, ho, hr⟩ := hr
 obtain ⟨r', ho', hr'⟩ := hr'
 exact ⟨fun W => tTest (tChain r r' (t1 W) (t2 W) (t3 W)), fun X W k => pt_chain (ho X W k) (ho' X W k) (p1 X W k) (p2 X W k) (p3 X W k) hm, fun W => .test (a7W (q1 W) (q2 W) (q3 W) hr hr')⟩

def b7T (g1 g2 : SB) : SB := fun ρ S => R.l (g1 ρ S) fun b S1 => if b = true then g2 ρ S1 else .ok false S1
def bOr (g1 g2 : SB) : SB := fun ρ S => R.l (g1 ρ S) fun b S1 => if b = true then .ok true S1 else g2 ρ S1
def a8e (g1 : SB) : SB := fun ρ S => R.l (g1 ρ S) fun b S1 => .ok (!b) S1
theorem TR.l {t : TT} (h : TR G W t g1) {S : Sto} {k : Bool → Sto → R Bool} {Q Q0 : Bool → Hp → Prop} (nt : NT o) (rs : RS G.K o c ρ S σ H) (p : PostB G W o c ρ σ H (R.l (g1 ρ S) k) Q0)
  (q : ∀ b S1 o1 c1 H1, Step d3 o c H o1 c1 H1 → NT o1 → RS G.K o1 c1 ρ S1 σ H1 → PostB G W o1 c1 ρ σ H1 (k b S1) Q0 → Q b H1) : t σ H Q := by
 refine h σ H ρ S o c Q nt rs ?_
 cases e : g1 ρ S with
 | ok b S1 => rw [e] at p; exact fun o' c' H' s nt' rs' => q b S1 o' c' H' s nt' rs' (PostB.step s p)
 | exc e S1 => rw [e] at p; exact p
 | bad => rw [e] at p; exact p
theorem TR.ee {t : TT} (h : TR G W t g1) {S : Sto} {k : Bool → Sto → R T} {Q : Bool → Hp → Prop} {Q0 : VK} (nt : NT o) (rs : RS G.K o c ρ S σ H) (p : PostE G W o c ρ σ H (R.l (g1 ρ S) k) Q0)
  (q : ∀ b S1 o1 c1 H1, Step d3 o c H o1 c1 H1 → NT o1 → RS G.K o1 c1 ρ S1 σ H1 → PostE G W o1 c1 ρ σ H1 (k b S1) Q0 → Q b H1) : t σ H Q := by
 refine h σ H ρ S o c Q nt rs ?_
 cases e : g1 ρ S with
 | ok b S1 => rw [e] at p; exact fun o' c' H' s nt' rs' => q b S1 o' c' H' s nt' rs' (PostE.step s p)
 | exc e S1 => rw [e] at p; exact p
 | bad => rw [e] at p; exact p
theorem WV.t (h : WV G e g1) : TV G e g1 := by
 obtain ⟨t, p, q⟩ := h
 exact ⟨t, fun X W k => (p X W k).pt, q⟩
theorem a3s (h : TV G a g1) : WV G (.BoolOp .And [a] pos) g1 := by
 obtain ⟨t, p, q⟩ := h
 exact ⟨t, fun X W k => pw_and1 (p X W k), q⟩
theorem V4 (h : TV G a g1) : WV G (.BoolOp .Or [a] pos) g1 := by
 obtain ⟨t, p, q⟩ := h
 exact ⟨t, fun X W k => pw_or1 (p X W k), q⟩
theorem a9q {rest : List Expr} (h1 : TV G a g1) (h2 : WV G (.BoolOp .And (b :: rest) pos) g2) : WV G (.BoolOp .And (a :: b :: rest) pos) (b7T g1 g2) := by
 obtain ⟨t1, p1, q1⟩ := h1
 obtain ⟨t2, p2, q2⟩ := h2
 refine ⟨fun W => tAnd (t1 W) (t2 W), fun X W k => pw_and (p1 X W k) (p2 X W k), fun W σ H ρ S o c Q nt rs p => ?_⟩
 refine (q1 W).l nt rs p fun b S1 o1 c1 H1 s1 nt1 rs1 p1 => ?_
 cases b with
 | true => rw [if_pos rfl] at p1 ⊢; exact q2 W σ H1 ρ S1 o1 c1 Q nt1 rs1 p1
 | false => rw [if_neg Bool.false_ne_true] at p1 ⊢; exact p1 o1 c1 H1 Step.refl nt1 rs1
theorem a0f {rest : List Expr} (h1 : TV G a g1) (h2 : WV G (.BoolOp .Or (b :: rest) pos) g2) : WV G (.BoolOp .Or (a :: b :: rest) pos) (bOr g1 g2) := by
 obtain ⟨t1, p1, q1⟩ := h1
 obtain ⟨t2, p2, q2⟩ := h2
 refine ⟨fun W => tOr (t1 W) (t2 W), fun X W k => pw_or (p1 X W k) (p2 X W k), fun W σ H ρ S o c Q nt rs p => ?_⟩
 refine (q1 W).l nt rs p fun b S1 o1 c1 H1 s1 nt1 rs1 p1 => ?_
 cases b with
 | false => rw [if_neg Bool.false_ne_true] at p1 ⊢; exact q2 W σ H1 ρ S1 o1 c1 Q nt1 rs1 p1
 | true => rw [if_pos rfl] at p1 ⊢; exact p1 o1 c1 H1 Step.refl nt1 rs1
theorem M9 (h1 : TV G a g1) : TV G (.UnaryOp .Not a pos) (a8e g1) := by
 obtain ⟨t1, p1, q1⟩ := h1
 refine ⟨fun W => tNot (t1 W), fun X W k => pt_not (p1 X W k), fun W σ H ρ S o c Q nt rs p => ?_⟩
 exact (q1 W).l nt rs p fun b S1 o1 c1 H1 s1 nt1 rs1 p1 => p1 o1 c1 H1 Step.refl nt1 rs1

def b1r (f1 f2 : SE) : SE := fun ρ S => R.d (f1 ρ S) fun d S1 => match a30 d with
 | some true => f2 ρ S1
 | some false => .ok (.val d) S1
 | none => .bad
def c1K (f1 : SE) : SE := cUn (fun d => (a30 d).map fun b => .val (.bool (!b))) f1
theorem a4n {op : BoolOp} (h : EV G a f1) : EV G (.BoolOp op [a] pos) f1 := by
 obtain ⟨t, p, q⟩ := h
 exact ⟨t, fun X W k => pe_one (p X W k), q⟩
theorem a4p {rest : List Expr} (h1 : EV G a f1) (h2 : EV G (.BoolOp .And (b :: rest) pos) f2) : EV G (.BoolOp .And (a :: b :: rest) pos) (b1r f1 f2) := by
 obtain ⟨t1, p1, q1⟩ := h1
 obtain ⟨t2, p2, q2⟩ := h2
 refine ⟨fun W => tAndT G.K (t1 W) (t2 W), fun X W k => by have := pe_andT (p1 X W k) (p2 X W k); rw [k.K] at this; exact this, fun W σ H ρ S o c Q nt rs p => ?_⟩
 refine (q1 W).d nt rs p fun d S1 v o1 c1 H1 s1 nt1 rs1 r1 p1 => ?_
 cases e : a30 d with
 | none => rw [e] at p1; exact p1.elim
 | some b =>
  rw [e] at p1
  refine ⟨b, a7u (.of _ _ r1) e, ?_⟩
  cases b with
  | true => rw [if_pos rfl]; exact q2 W σ H1 ρ S1 o1 c1 Q nt1 rs1 p1
  | false => rw [if_neg Bool.false_ne_true]; exact f7 rs1 p1 r1
theorem b8B (h1 : UV G a f1) : EV G (.UnaryOp .Not a pos) (c1K f1) := by
 obtain ⟨t1, p1, q1⟩ := h1
 refine ⟨fun W => tNotT G.K (t1 W), fun X W k => by have := pe_notT (pos := pos) (p1 X W k); rw [k.K] at this; exact this, fun W σ H ρ S o c Q nt rs p => ?_⟩
 refine (q1 W).d nt rs p fun d S1 v o1 c1 H1 s1 nt1 rs1 r1 p1 => ?_
 cases e : a30 d with
 | none => simp only [e, Option.map_none] at p1; exact p1.elim
 | some b =>
  simp only [e, Option.map_some] at p1
  exact ⟨b, a7u r1 e, f7 rs1 p1 (.bl _)⟩
end
end BV
namespace BV
open PySem L2

def a16 : List T → Option (List D)
 | [] => some []
 | .val d :: ts => (a16 ts).map (d :: ·)
 | _ :: _ => none
theorem RepTs.all {K : PySem.W.Frag} {o : Gh} {c : Cs} {H : Hp} : ∀ {vs : List V} {ts : List T} {ds : List D}, RepTs K o c H vs ts → a16 ts = some ds → RepAll K o H vs ds
 | [], [], _, _, e => by cases e; exact .nil
 | v :: vs, [], _, r, _ => by have := r.1; simp at this
 | [], t :: ts, _, r, _ => by have := r.1; simp at this
 | v :: vs, t :: ts, ds, r, e => by
  have h0 := (r.2 0 v t rfl rfl).1
  cases t with
  | val d =>
   cases e1 : a16 ts with
   | none => simp only [a16, e1, Option.map_none] at e; cases e
   | some es =>
    simp only [a16, e1, Option.map_some] at e
    cases e
    exact .cons v d vs es h0 (RepTs.all ⟨by have := r.1; simpa using this, fun i v t e1 e2 => r.2 (i + 1) v t (by simpa using e1) (by simpa using e2)⟩ e1)
  | _ => cases e
def t9 (fs : SA) : SE := fun ρ S => R.l (fs ρ S) fun ts S1 => match a16 ts with | some ds => if ds.length ≤ sizeLine then .ok (.own ds) S1 else .bad | none => .bad
def X0 (fs : SA) : SE := fun ρ S => R.l (fs ρ S) fun ts S1 => match a16 ts with | some ds => if ds.length ≤ sizeLine then .ok (.val (.tuple ds)) S1 else .bad | none => .bad
section
variable {G : Cc} {W : WX} {o o1 : Gh} {c c1 : Cs} {ρ : En} {σ : L2.St} {H H1 : Hp} {pos : Pos} {a b : Expr} {f1 f2 f3 : SE} {g1 g2 : SB} {e : Expr} {es : List Expr} {fs : SA}
theorem l9 (h : AV G es fs) : EV G (.List es pos) (t9 fs) := by
 obtain ⟨t, p, q⟩ := h
 refine ⟨fun W => tLst (t W), fun X W k => pe_lst (p X W k), fun W σ H ρ S o c Q nt rs ps => ?_⟩
 refine (q W).d nt rs ps fun ts S1 vs o1 c1 H1 s1 nt1 rs1 r1 p1 => ?_
 cases e : a16 ts with
 | none => rw [e] at p1; exact p1.elim
 | some ds =>
  rw [e] at p1
  have ra := r1.all e
  by_cases z : ds.length ≤ sizeLine
  ·simp only [if_pos z] at p1
   have z' : vs.length ≤ sizeLine := by rw [ra.length]; exact z
   exact ⟨z', fun q n => D9 rs1 p1 n z' ra⟩
  ·simp only [if_neg z] at p1; exact p1.elim
theorem D3 {k : Nat} (h : AV G es fs) : EV G (.Tuple es k pos) (X0 fs) := by
 obtain ⟨t, p, q⟩ := h
 refine ⟨fun W => tTup (t W), fun X W k => pe_tup (p X W k), fun W σ H ρ S o c Q nt rs ps => ?_⟩
 refine (q W).d nt rs ps fun ts S1 vs o1 c1 H1 s1 nt1 rs1 r1 p1 => ?_
 cases e : a16 ts with
 | none => rw [e] at p1; exact p1.elim
 | some ds =>
  rw [e] at p1
  have ra := r1.all e
  by_cases z : ds.length ≤ sizeLine
  ·simp only [if_pos z] at p1
   have z' : vs.length ≤ sizeLine := by rw [ra.length]; exact z
   exact ⟨z', fun q n => a0m rs1 p1 n z' ra⟩
  ·simp only [if_neg z] at p1; exact p1.elim

theorem RepAll.atI {K : PySem.W.Frag} {o : Gh} {H : Hp} {vs : List V} {ds : List D} {i : Int} {d : D} (r : RepAll K o H vs ds) (h : atI ds i = some d) : ∃ v, L2.atI vs i = some v ∧ Rep K o H v d := by
 unfold L2.atI at h ⊢
 rw [r.length]
 cases e : ixN ds.length i with
 | none => rw [e] at h; cases h
 | some j =>
  rw [e] at h
  exact r.get h
def gIx : D → D → Option T
 | .list xs, .int i => (atI xs i).map T.val
 | .tuple xs, .int i => (atI xs i).map T.val
 | .str x, .int i => (atI x.cps.toList i).map fun c => .val (.str ⟨#[c]⟩)
 | .dict kvs, k => (dAt kvs k).bind fun o => o.map T.val
 | _, _ => none
section
open PySem.Spec PyProof.Rows
def b1W : R2 := fun x y H Q => ∃ a v, x = .ref a ∧ DGet H a y (some v) ∧ Q v H
theorem b7h {X : Cx} (hu : X.A.units + 1 < cLine) : IxR X b1W := by
 intro value slice pins s σ H x y v u Q I rx ry h hs
 obtain ⟨a, w, rfl, g, q⟩ := h
 cases (show v = Value.ref a from rx)
 have hT := dict_typeIs I g
 unfold subscriptTail
 refine wpAny_bind ?_
 rw [getitemInPython_of_ne hT.not_modules]
 refine wpAny_bind (wpAny_specialOf hT PySem.F.slot_dict_getitem.lookup ?_)
 have fin : wpAny (model X.prog X.w) X.A (subscripted slice false (Value.ref a) u) (fun r s' => wpAny (model X.prog X.w) X.A (letTemporaryGo value (Value.ref a) r >>= fun _ => pure r) (EP X pins σ Q) X.xe s') X.xe s := by
  rw [hs]
  exact wpAny_operating (d_getItem hu I g ry fun w' s' I' rw' => wpAny_bind (wpAny_letTemporaryGo (wpAny_pure ⟨w, H, I', rw', q⟩)))
 first
  | exact wpAny_pure (wpAny_bind fin)
  | exact wpAny_bind (wpAny_pure (wpAny_bind fin))
  | exact wpAny_bind fin
end
theorem b6O {α : Type} {xs : List α} {i : Int} {v : α} (h : atI xs i = some v) : v ∈ xs := by
 obtain ⟨j, _, e, _⟩ := atI_get h
 exact List.mem_of_getElem? e
theorem a48 {x : Str} {m : Nat} (h : PyData.strOk x = true) (hc : m ∈ x.cps.toList) : PyData.strOk ⟨#[m]⟩ = true := by
 have h' : x.cps.all (fun y => decide (y < 0x110000)) = true := h
 rw [← Array.all_toList, List.all_eq_true] at h'
 have := h' m hc
 show (#[m] : Array Nat).all (fun y => decide (y < 0x110000)) = true
 rw [← Array.all_toList]
 simp only [List.all_cons, List.all_nil, Bool.and_true]
 exact this
theorem a8W {m : Nat} : (⟨#[m]⟩ : Str).length ≤ sizeLine := by
 show 1 ≤ sizeLine
 decide
def c3X (K : PySem.W.Frag) : R2 := fun x y H Q => rIx K x y H Q ∨ b1W x y H Q
theorem b9I (K : PySem.W.Frag) : OpD K (c3X K) gIx := by
 intro G W o c ρ S σ H x y a b t Q hK rs r1 r2 e p
 subst hK
 unfold gIx at e
 split at e
 ·rename_i xs i
  obtain ⟨a1, v1, e1, h1, n1, z1, q1⟩ := r1.lstV
  cases q : atI xs i with
  | none => rw [q] at e; cases e
  | some d =>
   rw [q] at e; cases e
   obtain ⟨v, q2, q3⟩ := q1.atI q
   rw [e1, r2.intV]
   exact .inl (.inl ⟨a1, v1, i, v, rfl, rfl, .of h1, q2, f7 rs p q3⟩)
 ·rename_i xs i
  obtain ⟨a1, v1, e1, h1, z1, q1⟩ := r1.tupV
  cases q : atI xs i with
  | none => rw [q] at e; cases e
  | some d =>
   rw [q] at e; cases e
   obtain ⟨v, q2, q3⟩ := q1.atI q
   rw [e1, r2.intV]
   exact .inl (.inr (.inl ⟨a1, v1, i, v, rfl, rfl, h1, q2, f7 rs p q3⟩))
 ·rename_i x i
  obtain ⟨e1, o1, l1⟩ := r1.strV
  cases q : atI x.cps.toList i with
  | none => rw [q] at e; cases e
  | some d =>
   rw [q] at e; cases e
   rw [e1, r2.intV]
   exact .inl (.inr (.inr ⟨x, i, d, rfl, rfl, l1, q, f7 rs p (.str _ (a48 o1 (b6O q)) a8W)⟩))
 ·rename_i kvs
  cases e1 : dAt kvs b with
  | none => rw [e1] at e; cases e
  | some od =>
   cases od with
   | none => rw [e1] at e; cases e
   | some d =>
    rw [e1] at e
    cases e
    obtain ⟨p', rfl, _, g⟩ := b5c r1 r2 e1
    obtain ⟨v, g, rv⟩ := g
    exact .inr ⟨p', v, rfl, g, f7 rs p rv⟩
 ·cases e
theorem k9 (h1 : UV G a f1) (h2 : UV G b f2) (hs : PlainIx b := by exact fun _ _ => rfl) : EV G (.Subscript a b pos) (d5 gIx f1 f2) := by
 obtain ⟨t1, p1, q1⟩ := h1
 obtain ⟨t2, p2, q2⟩ := h2
 exact ⟨fun W => tOp (c3X G.K) (t1 W) (t2 W), fun X W k => by have := pe_ix (pos := pos) ((ix_seq (X := X)).or (b7h (by have := k.units; omega))) (p1 X W k) (p2 X W k) hs; rw [k.K] at this; exact this, fun W => a4r (q1 W) (q2 W) (b9I _)⟩
def a2h (i : Nat) (f : SE) : SE := fun ρ S => match ρ[i]? with
 | some (some (.scr ns)) => R.d (f ρ S) fun d S1 => (match d with | .int j => (match atI ns j with | some n => .ok (.val (.int n)) S1 | none => .bad) | _ => .bad)
 | _ => .bad
theorem RepT.scrL {K : PySem.W.Frag} {w : Ow} {v : V} {ns : List Int} (r : RepT K o c H w v (.scr ns)) : ∃ a, v = .ref a ∧ SqL K H a (ns.map V.int) := by
 obtain ⟨a, e, z, h⟩ := r
 refine ⟨a, e, ?_⟩
 rcases h with ⟨ob, h⟩ | ⟨h, _⟩ | h
 ·exact .inl (.inr ⟨ob, h⟩)
 ·exact .inl (.inl h)
 ·exact .inr h
theorem b7j {α β : Type} (g : α → β) (xs : List α) (i : Int) : atI (xs.map g) i = (atI xs i).map g := by
 unfold L2.atI
 rw [List.length_map]
 cases ixN xs.length i with
 | none => rfl
 | some j => simp
theorem a8i (i : Nat) {x : Str} {xpos : Pos} (h2 : UV G b f2) (hs : PlainIx b := by exact fun _ _ => rfl) (hN : G.N[i]? = some x := by rfl) (hv : Vis G.sc x := by first | exact Or.inl rfl | exact Or.inr (Or.inl rfl) | exact Or.inr (Or.inr rfl))
  (hd : (x == ("__debug__" : Str)) = false := by decide) (hcd : (x == ("__classdict__" : Str)) = false := by decide) : EV G (.Subscript (.Name x xpos) b pos) (a2h i f2) := by
 obtain ⟨t2, p2, q2⟩ := h2
 refine ⟨fun W => tOp (rIxL G.K) (tVar i) (t2 W), fun X W k => by have := pe_ix (pos := pos) (ix_list (X := X)) (pe_var (pos := xpos) (k.at hN) (k.vis hv) hd hcd) (p2 X W k) hs; rw [k.K] at this; exact this, fun W σ H ρ S o c Q nt rs p => ?_⟩
 unfold a2h at p
 split at p
 ·rename_i ns e
  obtain ⟨v, e1, r⟩ := rs.slot i _ e
  refine ⟨v, e1, (q2 W).d nt rs p fun d S1 v1 o1 c1 H1 s1 nt1 rs1 r1 p1 => ?_⟩
  obtain ⟨a, e2, hq⟩ := (RepT.step (w := .slot i) rs.cs.trk s1 (fun z => z) r).scrL
  cases d with
  | int j =>
   cases q : atI ns j with
   | none => simp only [q] at p1; exact p1.elim
   | some n =>
    simp only [q] at p1
    exact ⟨a, _, j, .int n, e2, r1.intV, hq, by rw [b7j, q]; rfl, f7 rs1 p1 (.int _)⟩
  | _ => exact p1.elim
 ·exact p.elim
def R0 (i : Nat) (f : SE) : SE := fun ρ S => match ρ[i]? with
 | some (some (.cel n)) => R.d (f ρ S) fun d S1 => (match d, S1[n]? with | .int j, some (.lst xs) => (match atI xs j with | some x => .ok (.val x) S1 | none => .bad) | _, _ => .bad)
 | _ => .bad
theorem CS.at {K : PySem.W.Frag} {S : Sto} (q : CS K o c S H) {n : Nat} {a : Addr} {k : Ce} (e : c[n]? = some a) (e' : S[n]? = some k) : CellR K o H n a k := q.cell n a k e e'
theorem L3 (i : Nat) {x : Str} {xpos : Pos} (h2 : UV G b f2) (hs : PlainIx b := by exact fun _ _ => rfl) (hN : G.N[i]? = some x := by rfl) (hv : Vis G.sc x := by first | exact Or.inl rfl | exact Or.inr (Or.inl rfl) | exact Or.inr (Or.inr rfl))
  (hd : (x == ("__debug__" : Str)) = false := by decide) (hcd : (x == ("__classdict__" : Str)) = false := by decide) : EV G (.Subscript (.Name x xpos) b pos) (R0 i f2) := by
 obtain ⟨t2, p2, q2⟩ := h2
 refine ⟨fun W => tOp (rIxL G.K) (tVar i) (t2 W), fun X W k => by have := pe_ix (pos := pos) (ix_list (X := X)) (pe_var (pos := xpos) (k.at hN) (k.vis hv) hd hcd) (p2 X W k) hs; rw [k.K] at this; exact this, fun W σ H ρ S o c Q nt rs p => ?_⟩
 unfold R0 at p
 split at p
 ·rename_i n e
  obtain ⟨v, e1, r⟩ := rs.slot i _ e
  refine ⟨v, e1, (q2 W).d nt rs p fun d S1 v1 o1 c1 H1 s1 nt1 rs1 r1 p1 => ?_⟩
  obtain ⟨a, ea, ev⟩ := r
  have ea' := a06 s1.pre ea
  cases d with
  | int j =>
   cases q0 : S1[n]? with
   | none => simp only [q0] at p1; exact p1.elim
   | some k =>
    cases k with
    | dead => simp only [q0] at p1; exact p1.elim
    | dct tk kvs => simp only [q0] at p1; exact p1.elim
    | tab => simp only [q0] at p1; exact p1.elim
    | rcd b v => simp only [q0] at p1; exact p1.elim
    | lst xs =>
     simp only [q0] at p1
     cases q : atI xs j with
     | none => simp only [q] at p1; exact p1.elim
     | some x =>
      simp only [q] at p1
      obtain ⟨_, vs, h1, h2, h3⟩ := rs1.cs.at ea' q0
      obtain ⟨v', q5, q6⟩ := h3.atI q
      exact ⟨a, vs, j, v', ev, r1.intV, .of h1, q5, f7 rs1 p1 q6⟩
  | _ => exact p1.elim
 ·exact p.elim

def a5b (neg : Bool) (f : SE) (i : Nat) : SE := fun ρ S => R.d (f ρ S) fun d S1 => match ρ[i]? with
 | some (some (.cel n)) => (match S1[n]? with
  | some (.dct q kvs) => (match a0r (mkD q kvs) d with | some o => .ok (.val (.bool (if neg then !o.isSome else o.isSome))) S1 | none => .bad)
  | _ => .bad)
 | _ => .bad
theorem b8V {K : PySem.W.Frag} {o : Gh} {H : Hp} {a : Addr} {y : V} {q : Bool} {ks : List D} {vs : List V} {ds : List D} {kd : D} {od : Option D} {neg : Bool} {Q : VK} (hd : DAt K q H a ks vs) (ra : RepAll K o H vs ds) (r2 : RepU K o H y kd) (h : a0r (mkD q (ks.zip ds)) kd = some od) (qq : Q (.bl (if neg then !od.isSome else od.isSome)) H) :
  a05 K neg y (.ref a) H Q := by
 have hu := hd.un (ds := ds)
 unfold a0r at h
 cases ek : keyOf kd with
 | none => rw [ek] at h; cases h
 | some k =>
  rw [ek, hu] at h
  dsimp only at h
  split at h
  ·rename_i hc
   have h' := Option.some.inj h
   cases q with
   | false =>
    cases k with
    | inr k => cases hc
    | inl k =>
     obtain ⟨kvs', hr, rfl, rfl⟩ := hd
     have ev : y = kV k := c1o r2 (a1k ek)
     obtain ⟨g1, g2⟩ := L6 (fun k => b1f k) (fun k => .inl k) a09 (fun a b h => Sum.inl.inj h) k kvs' ds ra
     rw [h'] at g1 g2
     refine ⟨a, rfl, .inl ⟨valV kvs' k, .inl ⟨kvs', k, hr, ev, rfl⟩, ?_⟩⟩
     have hv : (valV kvs' k).isSome = od.isSome := by
      cases od with
      | some d => obtain ⟨v, e1, _⟩ := g1 d rfl; rw [e1]; rfl
      | none => rw [g2 rfl]; rfl
     rw [hv]
     exact qq
   | true =>
    have hc' : a1T k = true := by
     cases k with
     | inl k => exact hc
     | inr k => exact hc
    obtain ⟨ns, rfl⟩ := J9 hc'
    obtain ⟨kvs', xs, hH, kx, hs, rfl, rfl⟩ := hd
    have ey := G2 ek
    subst ey
    obtain ⟨b, us, rfl, sb, _, rb⟩ := r2.tupV
    have eu : us = ns.map V.int := Q6 rb
    subst eu
    obtain ⟨g1, g2⟩ := L6 (fun k => .tuple (k.map PyData.int)) G3 t8 F9 ns kvs' ds ra
    rw [h'] at g1 g2
    have hv : (valV kvs' ns).isSome = od.isSome := by
     cases od with
     | some d => obtain ⟨v, e1, _⟩ := g1 d rfl; rw [e1]; rfl
     | none => rw [g2 rfl]; rfl
    refine ⟨a, rfl, .inr ⟨kvs', xs, b, ns, hH, kx, hs, rfl, sb, ?_⟩⟩
    rw [hv]
    exact qq
  ·cases h
theorem b4s {W : WX} {t1 : TE} (neg : Bool) (i : Nat) (q1 : URd G W t1 f1) : ER G W (tOp (b7O G.K neg) t1 (tVar i)) (a5b neg f1 i) := by
 intro σ H ρ S o c Q nt rs p
 refine q1.d nt rs p fun d S1 v1 o1 c1 H1 s1 nt1 rs1 r1 p1 => ?_
 split at p1
 ·rename_i n e
  obtain ⟨v, e1, a0, ea, ev⟩ := rs1.slot i _ e
  refine ⟨v, e1, ?_⟩
  subst ev
  cases q0 : S1[n]? with
  | none => simp only [q0] at p1; exact p1.elim
  | some k =>
   cases k with
   | dead => simp only [q0] at p1; exact p1.elim
   | lst xs => simp only [q0] at p1; exact p1.elim
   | tab => simp only [q0] at p1; exact p1.elim
   | rcd b v => simp only [q0] at p1; exact p1.elim
   | dct q kvs =>
    simp only [q0] at p1
    obtain ⟨_, ks, vs, ds, hd, _, _, ra, rfl⟩ := rs1.cs.at ea q0
    cases q5 : a0r (mkD q (ks.zip ds)) d with
    | none => simp only [q5] at p1; exact p1.elim
    | some od =>
     simp only [q5] at p1
     exact .inl (.inl (.inr (b8V hd.r ra r1 q5 (f7 rs1 p1 (.bl _)))))
 ·exact p1.elim
theorem b85 {X : Cx} {W : WX} (k : G.Ok X W) : OpR X (compareOp .In) (b7O G.K false) := by
 have h := op_in_seq (X := X)
 have h2 := b5m (X := X) (a2W k)
 have h3 := a12 (X := X) (by have := k.units; omega)
 rw [k.K] at h h2 h3
 exact ((h.or h3).or h2).or op_in_sign
theorem b3B (i : Nat) {x : Str} {xpos : Pos} (h1 : UV G a f1) (hN : G.N[i]? = some x := by rfl) (hv : Vis G.sc x := by first | exact Or.inl rfl | exact Or.inr (Or.inl rfl) | exact Or.inr (Or.inr rfl)) (hd : (x == ("__debug__" : Str)) = false := by decide) (hcd : (x == ("__classdict__" : Str)) = false := by decide) : TV G (.Compare a [.In] [.Name x xpos] pos) (cB (a5b false f1 i)) := by
 obtain ⟨t1, p1, q1⟩ := h1
 exact ⟨fun W => tTest (tOp (b7O G.K false) (t1 W) (tVar i)), fun X W k => pt_cmpR (b85 k) (p1 X W k) (pe_var (pos := xpos) (k.at hN) (k.vis hv) hd hcd) rfl, fun W => .test (b4s false i (q1 W))⟩
def c12 (G : Cc) (W : WX) (o : Gh) (c : Cs) (ρ : En) (σ : L2.St) (H : Hp) (r : R (Option Int)) (Q : Option Int → Hp → Prop) : Prop := match r with
 | .ok i S' => ∀ o' c' H', Step d3 o c H o' c' H' → NT o' → RS G.K o' c' ρ S' σ H' → Q i H'
 | .exc e S' => ∀ cls d o' c' H', Step d3 o c H o' c' H' → RS G.K o' c' ρ S' σ H' → NT o' → b3n G.mg H' cls d e → W cls d σ H'
 | .bad => False
def PartR (G : Cc) (W : WX) (t : TO) (f : En → Sto → R (Option Int)) : Prop := ∀ (σ : L2.St) (H : Hp) (ρ : En) (S : Sto) (o : Gh) (c : Cs) (Q : Option Int → Hp → Prop), NT o → RS G.K o c ρ S σ H → c12 G W o c ρ σ H (f ρ S) Q → t σ H Q
theorem PartR.d {f : En → Sto → R (Option Int)} {t : TO} (h : PartR G W t f) {S : Sto} {k : Option Int → Sto → R T} {Q : Option Int → Hp → Prop} {Q0 : VK} (nt : NT o) (rs : RS G.K o c ρ S σ H) (p : PostE G W o c ρ σ H (R.l (f ρ S) k) Q0)
  (q : ∀ i S1 o1 c1 H1, Step d3 o c H o1 c1 H1 → NT o1 → RS G.K o1 c1 ρ S1 σ H1 → PostE G W o1 c1 ρ σ H1 (k i S1) Q0 → Q i H1) : t σ H Q := by
 refine h σ H ρ S o c Q nt rs ?_
 cases e : f ρ S with
 | ok ts S1 => rw [e] at p; exact fun o' c' H' s nt' rs' => q ts S1 o' c' H' s nt' rs' (PostE.step s p)
 | exc e S1 => rw [e] at p; exact p
 | bad => rw [e] at p; exact p
def PtV (G : Cc) (e : Option Expr) (f : En → Sto → R (Option Int)) : Prop := ∃ t : WX → TO, (∀ X W, G.Ok X W → PO X e (t W)) ∧ ∀ W, PartR G W (t W) f
def a3a : En → Sto → R (Option Int) := fun _ S => .ok none S
def a21 (f : SE) : En → Sto → R (Option Int) := fun ρ S => match f ρ S with
 | .ok t S1 => (match asD t with | some (.int i) => .ok (some i) S1 | _ => .bad)
 | .exc e S1 => .exc e S1
 | .bad => .bad
theorem b2I : PtV G none a3a := ⟨fun _ => tNoPart, fun _ _ _ => po_none, fun W σ H ρ S o c Q nt rs p => p o c H Step.refl nt rs⟩
theorem Y9 (h : UV G e f1) : PtV G (some e) (a21 f1) := by
 obtain ⟨t, p, q⟩ := h
 refine ⟨fun W => tPart (t W), fun X W k => po_some (p X W k), fun W σ H ρ S o c Q nt rs ps => ?_⟩
 refine q W σ H ρ S o c _ nt rs ?_
 unfold a21 at ps
 cases e : f1 ρ S with
 | bad => rw [e] at ps; exact ps
 | exc e' S' => rw [e] at ps; exact ps
 | ok t0 S' =>
  rw [e] at ps
  cases e1 : asD t0 with
  | none => simp only [e1] at ps; exact ps.elim
  | some d =>
   simp only [e1] at ps
   refine ⟨d, e1, fun v o1 c1 H1 s1 nt1 rs1 r1 => ?_⟩
   cases d with
   | int i => exact ⟨i, r1.intV, ps o1 c1 H1 s1 nt1 rs1⟩
   | _ => exact ps.elim
def a19 {α : Type} (xs : List α) (lo hi : Option Int) : List α := (xs.drop (HT.sIx xs.length 0 lo)).take (HT.sIx xs.length xs.length hi - HT.sIx xs.length 0 lo)
theorem RepAll.cut {K : PySem.W.Frag} {vs : List V} {ds : List D} (r : RepAll K o H vs ds) (lo hi : Option Int) : RepAll K o H (cutV vs lo hi) (a19 ds lo hi) := by
 unfold cutV a19
 rw [r.length]
 exact (r.drop _).take _
def gSl : D → Option Int → Option Int → Option T
 | .list xs, lo, hi => some (.own (a19 xs lo hi))
 | .tuple xs, lo, hi => some (.val (.tuple (a19 xs lo hi)))
 | .str x, lo, hi => some (.val (.str (cutS x lo hi)))
 | _, _, _ => none
def cSl (f : SE) (g h : En → Sto → R (Option Int)) : SE := fun ρ S => R.d (f ρ S) fun d S1 => R.l (g ρ S1) fun lo S2 => R.l (h ρ S2) fun hi S3 => match gSl d lo hi with | some t => .ok t S3 | none => .bad
theorem b2a {x : Str} {lo hi : Option Int} (h : PyData.strOk x = true) : PyData.strOk (cutS x lo hi) = true := by
 have h' : x.cps.all (fun y => decide (y < 0x110000)) = true := h
 rw [← Array.all_toList, List.all_eq_true] at h'
 show (cutS x lo hi).cps.all (fun y => decide (y < 0x110000)) = true
 rw [← Array.all_toList, List.all_eq_true]
 intro c hc
 unfold cutS at hc
 exact h' c (List.mem_of_mem_drop (List.mem_of_mem_take (by simpa using hc)))
def c4J (K : PySem.W.Frag) : V → Option Int → Option Int → Hp → VK → Prop := fun x lo hi H Q => (rSlL K x lo hi H Q ∨ rSlA K x lo hi H Q) ∨ rSlS x lo hi H Q
theorem b4c {lo hi : Option Expr} {sp : Pos} {g h : En → Sto → R (Option Int)} (h1 : UV G a f1) (h2 : PtV G lo g) (h3 : PtV G hi h) : EV G (.Subscript a (.Slice lo hi none sp) pos) (cSl f1 g h) := by
 obtain ⟨t1, p1, q1⟩ := h1
 obtain ⟨t2, p2, q2⟩ := h2
 obtain ⟨t3, p3, q3⟩ := h3
 refine ⟨fun W => tSl (c4J G.K) (t1 W) (t2 W) (t3 W), fun X W k => ?_, fun W σ H ρ S o c Q nt rs p => ?_⟩
 ·have := pe_slice (pos := pos) (p2 := sp) ((sl_list (X := X)).or (sl_tupA (X := X)) |>.or (sl_str (X := X))) (p1 X W k) (p2 X W k) (p3 X W k)
  rw [k.K] at this
  exact this
 refine (q1 W).d nt rs p fun d S1 v o1 c1 H1 s1 nt1 rs1 r1 p1 => ?_
 refine (q2 W).d nt1 rs1 p1 fun l S2 o2 c2 H2 s2 nt2 rs2 p2 => ?_
 refine (q3 W).d nt2 rs2 p2 fun u S3 o3 c3 H3 s3 nt3 rs3 p3 => ?_
 have r3 := (r1.step rs1.cs.trk s2).step rs2.cs.trk s3
 cases d with
 | list xs =>
  obtain ⟨a, vs, e1, h1, _, z1, ra⟩ := r3.lstV
  exact .inl (.inl ⟨a, vs, e1, .of h1, fun q n => D9 rs3 p3 n (Nat.le_trans (cutV_length _ _ _) z1) (ra.cut l u)⟩)
 | tuple xs =>
  obtain ⟨a, vs, e1, h1, z1, ra⟩ := r3.tupW
  subst e1
  refine .inl (.inr ⟨a, vs, rfl, h1, fun hw => ?_, fun hw q n => a0m rs3 p3 n (Nat.le_trans (cutV_length _ _ _) z1) (ra.cut l u)⟩)
  have e2 : a19 xs l u = xs := by
   unfold a19
   rw [← ra.length, hw.1, hw.2, List.drop_zero, Nat.sub_zero, ra.length, List.take_length]
  have p4 : PostE G W o3 c3 ρ σ H3 (.ok (.val (.tuple (a19 xs l u))) S3) Q := p3
  rw [e2] at p4
  exact f7 rs3 p4 (.tup a vs xs h1 z1 ra)
 | str x =>
  obtain ⟨e1, o1, l1⟩ := r3.strV
  exact .inr ⟨x, e1, l1, f7 rs3 p3 (.str _ (b2a o1) (Nat.le_trans (cutS_length _ _ _) l1))⟩
 | _ => exact p3.elim
end
end BV
namespace BV
open PySem L2

abbrev SU := En → Sto → R (List D)
def w3 : SU := fun _ S => .ok [] S
def i4 (f : SE) (g : SU) : SU := fun ρ S => match f ρ S with
 | .ok t S1 => (match asD t with | some d => R.l (g ρ S1) fun ds S2 => .ok (d :: ds) S2 | none => .bad)
 | .exc e S1 => .exc e S1
 | .bad => .bad
def RepUs (K : PySem.W.Frag) (o : Gh) (H : Hp) : List V → List D → Prop
 | [], [] => True
 | v :: vs, d :: ds => RepU K o H v d ∧ RepUs K o H vs ds
 | _, _ => False
def PostL (G : Cc) (W : WX) (o : Gh) (c : Cs) (ρ : En) (σ : L2.St) (H : Hp) (r : R (List D)) (Q : List V → Hp → Prop) : Prop := match r with
 | .ok ds S' => ∀ vs o' c' H', Step d3 o c H o' c' H' → NT o' → RS G.K o' c' ρ S' σ H' → RepUs G.K o' H' vs ds → Q vs H'
 | .exc e S' => ∀ cls d o' c' H', Step d3 o c H o' c' H' → RS G.K o' c' ρ S' σ H' → NT o' → b3n G.mg H' cls d e → W cls d σ H'
 | .bad => False
def UAR (G : Cc) (W : WX) (t : TA) (f : SU) : Prop := ∀ (σ : L2.St) (H : Hp) (ρ : En) (S : Sto) (o : Gh) (c : Cs) (Q : List V → Hp → Prop), NT o → RS G.K o c ρ S σ H → PostL G W o c ρ σ H (f ρ S) Q → t σ H Q
def UAV (G : Cc) (es : List Expr) (f : SU) : Prop := ∃ t : WX → TA, (∀ X W, G.Ok X W → PA X es (t W)) ∧ ∀ W, UAR G W (t W) f
theorem PostL.step {G : Cc} {W : WX} {o o1 : Gh} {c c1 : Cs} {ρ : En} {σ : L2.St} {H H1 : Hp} {r : R (List D)} {Q : List V → Hp → Prop} (a : Step d3 o c H o1 c1 H1) (h : PostL G W o c ρ σ H r Q) : PostL G W o1 c1 ρ σ H1 r Q := by
 cases r with
 | ok t S' => exact fun v o' c' H' s => h v o' c' H' (a.trans s)
 | exc e S' => exact fun cls d o' c' H' s => h cls d o' c' H' (a.trans s)
 | bad => exact h
theorem UAR.d {G : Cc} {W : WX} {o : Gh} {c : Cs} {ρ : En} {σ : L2.St} {H : Hp} {f : SU} {t : TA} (h : UAR G W t f) {S : Sto} {k : List D → Sto → R T} {Q : List V → Hp → Prop} {Q0 : VK} (nt : NT o) (rs : RS G.K o c ρ S σ H) (p : PostE G W o c ρ σ H (R.l (f ρ S) k) Q0)
  (q : ∀ ds S1 vs o1 c1 H1, Step d3 o c H o1 c1 H1 → NT o1 → RS G.K o1 c1 ρ S1 σ H1 → RepUs G.K o1 H1 vs ds → PostE G W o1 c1 ρ σ H1 (k ds S1) Q0 → Q vs H1) : t σ H Q := by
 refine h σ H ρ S o c Q nt rs ?_
 cases e : f ρ S with
 | ok ts S1 => rw [e] at p; exact fun vs o' c' H' s nt' rs' r' => q ts S1 vs o' c' H' s nt' rs' r' (PostE.step s p)
 | exc e S1 => rw [e] at p; exact p
 | bad => rw [e] at p; exact p
theorem RepUs.step {K : PySem.W.Frag} {o o1 : Gh} {c c1 : Cs} {H H1 : Hp} (tr : Trk o H) (s : Step d3 o c H o1 c1 H1) : ∀ {vs : List V} {ds : List D}, RepUs K o H vs ds → RepUs K o1 H1 vs ds
 | [], [], _ => trivial
 | _ :: _, _ :: _, r => ⟨r.1.step tr s, RepUs.step tr s r.2⟩
 | [], _ :: _, r => r.elim
 | _ :: _, [], r => r.elim
section
variable {G : Cc} {pos : Pos} {e : Expr} {es : List Expr} {f : SE} {g : SU}
theorem i7 : UAV G [] w3 := ⟨fun _ => tNil, fun X W k => pa_nil, fun W σ H ρ S o c Q nt rs p => p [] o c H Step.refl nt rs trivial⟩
theorem d7 (h1 : UV G e f) (h2 : UAV G es g) (hs : ∀ env : PySem.Env, starEach (e :: es) env = (false, eval e env) :: starEach es env := by intro _; rfl) : UAV G (e :: es) (i4 f g) := by
 obtain ⟨t1, p1, q1⟩ := h1
 obtain ⟨t2, p2, q2⟩ := h2
 refine ⟨fun W => tCons (t1 W) (t2 W), fun X W k => pa_cons (p1 X W k) (p2 X W k) (hs _), fun W σ H ρ S o c Q nt rs p => ?_⟩
 refine q1 W σ H ρ S o c _ nt rs ?_
 unfold i4 at p
 cases e1 : f ρ S with
 | bad => rw [e1] at p; exact p
 | exc e' S' => rw [e1] at p; exact p
 | ok t0 S' =>
  rw [e1] at p
  cases e2 : asD t0 with
  | none => simp only [e2] at p; exact p.elim
  | some d =>
   simp only [e2] at p
   refine ⟨d, e2, fun v o1 c1 H1 s1 nt1 rs1 r1 => ?_⟩
   have p' := PostL.step s1 p
   refine q2 W σ H1 ρ S' o1 c1 _ nt1 rs1 ?_
   cases e3 : g ρ S' with
   | bad => rw [e3] at p'; exact p'
   | exc e' S' => rw [e3] at p'; exact p'
   | ok ds S2 =>
    rw [e3] at p'
    exact fun vs o2 c2 H2 s2 nt2 rs2 r2 => p' (v :: vs) o2 c2 H2 s2 nt2 rs2 ⟨r1.step rs1.cs.trk s2, r2⟩

def b7x (K : PySem.W.Frag) (r : List V → Hp → VK → Prop) (g : List D → Option T) : Prop := ∀ (G : Cc) (W : WX) (o : Gh) (c : Cs) (ρ : En) (S : Sto) (σ : L2.St) (H : Hp) (vs : List V) (ds : List D) (t : T) (Q : VK), G.K = K → RS K o c ρ S σ H → RepUs K o H vs ds → g ds = some t →
 PostE G W o c ρ σ H (.ok t S) Q → r vs H Q
def cB1 (g : List D → Option T) (fs : SU) : SE := fun ρ S => R.l (fs ρ S) fun ds S1 => match g ds with | some t => .ok t S1 | none => .bad
structure BF (G : Cc) (x : Str) (g : List D → Option T) : Prop where
 ex : ∃ (id : String) (r : List V → Hp → VK → Prop), bootBuiltins x = some (.builtin id) ∧ (∀ X W, G.Ok X W → CallR X (.builtin id) r) ∧ b7x G.K r g
structure BT (G : Cc) (x : Str) (g : List D → Option T) : Prop where
 ex : ∃ (id : String) (r : List V → Hp → VK → Prop), bootBuiltins x = some (.type id) ∧ (∀ X W, G.Ok X W → CallR X (.type id) r) ∧ b7x G.K r g
theorem b11 {W : WX} {t : TA} {r : List V → Hp → VK → Prop} {g : List D → Option T} {fs : SU} (h : UAR G W t fs) (hr : b7x G.K r g) : ER G W (tCB r t) (cB1 g fs) := by
 intro σ H ρ S o c Q nt rs p
 unfold cB1 at p
 refine h.d (Q := fun vs H1 => r vs H1 Q) nt rs p fun ds S1 vs o1 c1 H1 s1 nt1 rs1 r1 p1 => ?_
 cases e : g ds with
 | none => rw [e] at p1; exact p1.elim
 | some t => rw [e] at p1; exact hr G W o1 c1 ρ S1 σ H1 vs ds t Q rfl rs1 r1 e p1
theorem B7 {x : Str} {p : Pos} {gg : List D → Option T} (hb : BF G x gg) (hm : G.mg x = none) (ha : UAV G (e :: es) g) (hg : G.sc.names.lookup x = some .globalImplicit := by rfl) (hn : x ≠ "__name__" := by decide) (hdb : (x == ("__debug__" : Str)) = false := by decide)
  (he : ∀ env : PySem.Env, starEach (e :: es) env = (false, eval e env) :: starEach es env := by intro _; rfl) (hpl : ∀ env : PySem.Env, (backTo pos (starEach es env)).any (·.1) = false := by intro _; rfl) : EV G (.Call (.Name x p) (e :: es) [] pos) (cB1 gg g) := by
 obtain ⟨t, p1, q1⟩ := ha
 obtain ⟨id, r, hv, hr, hd⟩ := hb.ex
 exact ⟨fun W => tCB r (t W), fun X W k => pe_callB (hr X W k) (k.gl hg) (k.m hm) hv (p1 X W k) hn hdb (he _) (hpl _), fun W => b11 (q1 W) hd⟩
theorem b0Z {x : Str} {p : Pos} {gg : List D → Option T} (hb : BT G x gg) (hm : G.mg x = none) (ha : UAV G (e :: es) g) (hg : G.sc.names.lookup x = some .globalImplicit := by rfl) (hn : x ≠ "__name__" := by decide) (hdb : (x == ("__debug__" : Str)) = false := by decide)
  (he : ∀ env : PySem.Env, starEach (e :: es) env = (false, eval e env) :: starEach es env := by intro _; rfl) (hpl : ∀ env : PySem.Env, (backTo pos (starEach es env)).any (·.1) = false := by intro _; rfl) : EV G (.Call (.Name x p) (e :: es) [] pos) (cB1 gg g) := by
 obtain ⟨t, p1, q1⟩ := ha
 obtain ⟨id, r, hv, hr, hd⟩ := hb.ex
 exact ⟨fun W => tCB r (t W), fun X W k => pe_callTy (hr X W k) (k.gl hg) (k.m hm) hv (p1 X W k) hn hdb (he _) (hpl _), fun W => b11 (q1 W) hd⟩

theorem RepUs.nilV {K : PySem.W.Frag} {o : Gh} {H : Hp} : ∀ {vs : List V}, RepUs K o H vs [] → vs = []
 | [], _ => rfl
 | _ :: _, r => r.elim
theorem RepUs.consV {K : PySem.W.Frag} {o : Gh} {H : Hp} {d : D} {ds : List D} : ∀ {vs : List V}, RepUs K o H vs (d :: ds) → ∃ v ws, vs = v :: ws ∧ RepU K o H v d ∧ RepUs K o H ws ds
 | [], r => r.elim
 | v :: ws, r => ⟨v, ws, rfl, r.1, r.2⟩
theorem RepUs.one {K : PySem.W.Frag} {o : Gh} {H : Hp} {vs : List V} {d : D} (r : RepUs K o H vs [d]) : ∃ v, vs = [v] ∧ RepU K o H v d := by
 obtain ⟨v, ws, e, r1, r2⟩ := r.consV
 exact ⟨v, by rw [e, r2.nilV], r1⟩
theorem RepUs.two {K : PySem.W.Frag} {o : Gh} {H : Hp} {vs : List V} {d e : D} (r : RepUs K o H vs [d, e]) : ∃ v w, vs = [v, w] ∧ RepU K o H v d ∧ RepU K o H w e := by
 obtain ⟨v, ws, e, r1, r2⟩ := r.consV
 obtain ⟨w, us, e', r3, r4⟩ := r2.consV
 exact ⟨v, w, by rw [e, e', r4.nilV], r1, r3⟩
def c4V : D → Option Nat
 | .str x => some x.length
 | .list xs => some xs.length
 | .tuple xs => some xs.length
 | _ => none
def X3 : List D → Option T
 | [d] => (c4V d).map fun (n : Nat) => T.val (.int n)
 | _ => none
theorem P2 : BF G "len" X3 := ⟨"len", _, boot_len, fun X W k => by have := call_len (X := X); rw [k.K] at this; exact this, by
 intro G' W o c ρ S σ H vs ds t Q hK rs r e p
 rw [← hK] at r ⊢
 match ds, r, e with
 | [d], r, e =>
  obtain ⟨v, rfl, r'⟩ := r.one
  cases d with
  | str x =>
   cases e
   obtain ⟨e1, o1, l1⟩ := r'.strV
   exact ⟨v, _, rfl, by rw [e1]; exact ⟨l1, rfl⟩, f7 (hK ▸ rs) p (.int _)⟩
  | list xs =>
   cases e
   obtain ⟨a, vs, e1, h1, _, z1, ra⟩ := r'.lstV
   exact ⟨v, _, rfl, by rw [e1]; exact .inl ⟨vs, .of h1, ra.length.symm⟩, f7 (hK ▸ rs) p (.int _)⟩
  | tuple xs =>
   cases e
   obtain ⟨a, vs, e1, h1, z1, ra⟩ := r'.tupV
   exact ⟨v, _, rfl, by rw [e1]; exact .inr ⟨vs, h1, ra.length.symm⟩, f7 (hK ▸ rs) p (.int _)⟩
  | _ => cases e⟩
def b80 : List D → Option T
 | [.int i] => some (.val (.int (if i < 0 then -i else i)))
 | _ => none
theorem b9j : BF G "abs" b80 := ⟨"abs", _, by first | exact boot_abs | exact PyProof.Rows.boot_abs, fun X W k => call_abs, by
 intro G' W o c ρ S σ H vs ds t Q hK rs r e p
 unfold b80 at e
 split at e
 ·cases e
  obtain ⟨v, rfl, r'⟩ := r.one
  rw [r'.intV]
  exact ⟨_, rfl, f7 (hK ▸ rs) p (.int _)⟩
 ·cases e⟩
def a3n : List D → Option T
 | [.int i, .int j] => some (.val (.int (if j < i then j else i)))
 | _ => none
theorem X7 (hcm : G.hot = none := by rfl) : BF G "min" a3n := ⟨"min", _, by first | exact boot_min | exact PyProof.Rows.boot_min, fun X W k => call_min2 (k.calm hcm), by
 intro G' W o c ρ S σ H vs ds t Q hK rs r e p
 unfold a3n at e
 split at e
 ·cases e
  obtain ⟨v, w, rfl, r1, r2⟩ := r.two
  rw [r1.intV, r2.intV]
  exact ⟨_, _, rfl, f7 (hK ▸ rs) p (.int _)⟩
 ·cases e⟩
def a4I : List D → Option T
 | [.int i, .int j] => some (.val (.int (if j > i then j else i)))
 | _ => none
theorem a1f (hcm : G.hot = none := by rfl) : BF G "max" a4I := ⟨"max", _, by first | exact boot_max | exact PyProof.Rows.boot_max, fun X W k => call_max2 (k.calm hcm), by
 intro G' W o c ρ S σ H vs ds t Q hK rs r e p
 unfold a4I at e
 split at e
 ·cases e
  obtain ⟨v, w, rfl, r1, r2⟩ := r.two
  rw [r1.intV, r2.intV]
  exact ⟨_, _, rfl, f7 (hK ▸ rs) p (.int _)⟩
 ·cases e⟩
def a53 : List D → Option T
 | [.int i] => some (.val (.int i))
 | [.bool b] => some (.val (.int (if b then 1 else 0)))
 | _ => none
theorem b8I : BT G "int" a53 := ⟨"int", _, by first | exact boot_int | exact PyProof.Rows.boot_int, fun X W k => call_int1, by
 intro G' W o c ρ S σ H vs ds t Q hK rs r e p
 unfold a53 at e
 split at e
 ·cases e
  obtain ⟨v, rfl, r'⟩ := r.one
  rw [r'.intV]
  exact .inl ⟨_, rfl, f7 (hK ▸ rs) p (.int _)⟩
 ·cases e
  obtain ⟨v, rfl, r'⟩ := r.one
  rw [r'.blV]
  exact .inr ⟨_, rfl, f7 (hK ▸ rs) p (.int _)⟩
 ·cases e⟩
def a1p : List D → Option T
 | [.list xs] => some (.val (.tuple xs))
 | [.tuple xs] => some (.val (.tuple xs))
 | _ => none
theorem a2D : BT G "tuple" a1p := ⟨"tuple", _, by first | exact boot_tuple | exact PyProof.Rows.boot_tuple, fun X W k => by have := call_tuple_of (X := X); rw [k.K] at this; exact this, by
 intro G' W o c ρ S σ H vs ds t Q hK rs r e p
 rw [← hK] at r ⊢
 unfold a1p at e
 split at e
 ·cases e
  obtain ⟨v, rfl, r'⟩ := r.one
  obtain ⟨a, vs, e1, h1, _, z1, ra⟩ := r'.lstV
  subst e1
  exact ⟨a, vs, rfl, .inl ⟨.of h1, fun l n => a0m (hK ▸ rs) p n z1 ra⟩⟩
 ·cases e
  obtain ⟨v, rfl, r'⟩ := r.one
  obtain ⟨a, vs, e1, h1, z1, ra⟩ := r'.tupW
  subst e1
  exact ⟨a, vs, rfl, .inr ⟨h1, f7 (hK ▸ rs) p (.tup a vs _ h1 z1 ra)⟩⟩
 ·cases e⟩
def a4K : List D → Option T
 | [.list xs] => some (.own xs)
 | [.tuple xs] => some (.own xs)
 | _ => none
theorem b2b : BT G "list" a4K := ⟨"list", _, by first | exact boot_list | exact PyProof.Rows.boot_list, fun X W k => by have := call_list_of (X := X); rw [k.K] at this; exact this, by
 intro G' W o c ρ S σ H vs ds t Q hK rs r e p
 rw [← hK] at r ⊢
 unfold a4K at e
 split at e
 ·cases e
  obtain ⟨v, rfl, r'⟩ := r.one
  obtain ⟨a, vs, e1, h1, _, z1, ra⟩ := r'.lstV
  subst e1
  exact ⟨a, vs, rfl, .inl (.of h1), fun l n => D9 (hK ▸ rs) p n z1 ra⟩
 ·cases e
  obtain ⟨v, rfl, r'⟩ := r.one
  obtain ⟨a, vs, e1, h1, z1, ra⟩ := r'.tupV
  subst e1
  exact ⟨a, vs, rfl, .inr h1, fun l n => D9 (hK ▸ rs) p n z1 ra⟩
 ·cases e⟩
end
end BV
namespace BV
open PySem L2

def b7a (o : Gh) : Prop := ∀ a w, o a = some w → (w = .prot ∨ w = .seen) ∨ d3 w
def c2n (K : PySem.W.Frag) (mg : Str → Option Value) (o : Gh) (c : Cs) (H : Hp) (r : R T) (Q : VK) (E : XK) : Prop := match r with
 | .ok t S' => ∀ v o' c' H', Step d3 o c H o' c' H' → CS K o' c' S' H' → (∀ a i, o' a ≠ some (.slot i)) → RepT K o' c' H' .tmp v t → Q v H'
 | .exc e S' => ∀ cls d o' c' H', Step d3 o c H o' c' H' → CS K o' c' S' H' → (∀ a i, o' a ≠ some (.slot i)) → NT o' → b3n mg H' cls d e → E cls d H'
 | .bad => False
def spD (K : PySem.W.Frag) (mg : Str → Option Value) (n : Nat) (f : Fn) : Sp := fun vs H Q E => vs.length = n ∧ ∃ ts S o c, RepTs K o c H vs ts ∧ b7a o ∧ CS K o c S H ∧ c2n K mg o c H (f ts S) Q E
structure FnD (P : Program) (w : World) (K : PySem.W.Frag) (mg : Str → Option Value) (base : Heap) (cn : Bool) (k : Nat) (x : Str) (n : Nat) (f : Fn) : Prop where
 ex : ∃ (a : Addr) (fd : FuncData) (ps : List Str), mg x = some (.ref a) ∧ PySem.W.keepIn K (.ref a) = true ∧ Binds K fd ps [] ∧ ps.length = n ∧ FnOk P w K mg base (CXg cn P w) k a fd ps (spD K mg n f)
def a3I (o : Gh) : Gh := fun a => match o a with
 | some (.cell n) => some (.cell n)
 | some .seen => some .seen
 | some _ => some .prot
 | none => none
def S0 (o o' : Gh) : Gh := fun a => match o a with
 | some (.cell _) => o' a
 | some w => some w
 | none => o' a
section
variable {K : PySem.W.Frag} {o o1 o' : Gh} {c c' : Cs} {H H' : Hp} {S S' : Sto} {v : V} {t : T} {w : Ow} {ρ : En} {σ : L2.St}
theorem forC_none {a : Addr} : a3I o a = none ↔ o a = none := by
 unfold a3I
 constructor
 ·intro h
  split at h <;> first | assumption | (cases h; done)
 ·intro h
  rw [h]
theorem b0o : b7a (a3I o) := fun a w h => by
 unfold a3I at h
 split at h
 ·cases h; exact .inr trivial
 ·cases h; exact .inl (.inr rfl)
 ·cases h; exact .inl (.inl rfl)
 ·cases h
theorem forC_cell {a : Addr} {n : Nat} : a3I o a = some (.cell n) ↔ o a = some (.cell n) := by
 unfold a3I
 constructor
 ·intro h
  split at h
  ·cases h; assumption
  ·cases h
  ·cases h
  ·cases h
 ·intro h
  rw [h]
theorem b9o {a : Addr} (e : o a = some w) (h : ¬ d3 w) : ∃ w', a3I o a = some w' ∧ (w' = .prot ∨ w' = .seen) := by
 unfold a3I
 rw [e]
 cases w with
 | cell n => exact absurd trivial h
 | seen => exact ⟨_, rfl, .inr rfl⟩
 | _ => exact ⟨_, rfl, .inl rfl⟩
theorem a2L (s : Step d3 (a3I o) c H o' c' H') {a : Addr} (e : o a = some w) (h : ¬ d3 w) : ∃ w', o' a = some w' ∧ (w' = .prot ∨ w' = .seen) := by
 obtain ⟨w', h1, h2⟩ := b9o e h
 refine ⟨w', s.own a _ h1 (fun z => ?_), h2⟩
 rcases h2 with z' | z' <;> (subst z'; exact z)
theorem Kept.same (h : ∀ a, o a = none → o' a = none) : Kept o H o' H := fun a u e n => ⟨e, h a n⟩
theorem Trk.same (tr : Trk o H) (h : ∀ a, o' a ≠ none → o a ≠ none) : Trk o' H := fun a n => tr a (h a n)
theorem CS.same (q : CS K o c S H) (h : ∀ a, o a = none ↔ o' a = none) (hc : ∀ a n, o a = some (.cell n) → o' a = some (.cell n)) : CS K o' c S H :=
 q.move (Kept.same fun a e => (h a).mp e) (fun a n e => ⟨hc a n e, fun u hu => hu⟩) (q.trk.same fun a n e => n ((h a).mp e))
theorem RepT.same (tr : Trk o H) (h : ∀ a, o a = none → o' a = none) (hw : ∀ a, o a = some w → o' a = some w) (hp : ∀ a, o a = some .seen → o' a = some .seen) (r : RepT K o c H w v t) : RepT K o' c H w v t := by
 have k : Kept o H o' H := Kept.same h
 cases t with
 | val d => exact Rep.kept tr k r
 | own xs =>
  obtain ⟨x, vs, e, q, h', z, ra⟩ := r
  exact ⟨x, vs, e, hw _ q, h', z, ra.kept tr k⟩
 | own2 xss =>
  obtain ⟨x, as, e, q, h', nd, z, le, f⟩ := r
  refine ⟨x, as, e, hw _ q, h', nd, z, le, fun i b xs e1 e2 => ?_⟩
  obtain ⟨q', vs, h'', z', ra⟩ := f i b xs e1 e2
  exact ⟨hw _ q', vs, h'', z', ra.kept tr k⟩
 | ownd kvs =>
  obtain ⟨x, ks, vs, ds, e, q, h', z, z2, ra, e'⟩ := r
  exact ⟨x, ks, vs, ds, e, hw _ q, h', z, z2, ra.kept tr k, e'⟩
 | cel n => exact r
 | scr ns =>
  obtain ⟨x, e, z, h'⟩ := r
  refine ⟨x, e, z, ?_⟩
  rcases h' with h' | ⟨h', n⟩ | h'
  ·exact .inl h'
  ·exact .inr (.inl ⟨h', h _ n⟩)
  ·exact .inr (.inr h')
 | exn _ _ _ _ => exact r
 | tree d =>
  obtain ⟨as, r, nd⟩ := r
  exact ⟨as, r.move (fun x u e q => ⟨e, hw _ q⟩) (fun b us z => SqT.kept tr k z), nd⟩
 | rof b u =>
  obtain ⟨x, fv, e, q, h1, h2, h3⟩ := r
  exact ⟨x, fv, e, hp _ q, h1, h2, h3.moved tr k hp⟩
 | recs b ns => exact RcsR.move (fun x u e q => ⟨e, hw _ q⟩) k (fun _ _ e => e) r
theorem RepT.anyW {w' : Ow} (ea : asA t = t) (r : RepT K o c H w v t) : RepT K o c H w' v t := by
 cases t with
 | val d => exact r
 | own xs => cases ea
 | own2 xs => cases ea
 | ownd xs => cases ea
 | cel n => exact r
 | scr ns => exact r
 | exn _ _ _ _ => exact r
 | tree d => cases ea
 | rof b u => exact r
 | recs b ns =>
  cases b with
  | true => cases ea
  | false =>
   obtain ⟨a, as, e, q, h, z, l, f⟩ := r
   exact ⟨a, as, e, q, h, z, l, f⟩
theorem a4T (s : Step d3 (a3I o) c H o' c' H') {a : Addr} : S0 o o' a = none ↔ o' a = none := by
 unfold S0
 cases e : o a with
 | none => simp
 | some w =>
  cases w with
  | cell n => simp
  | _ =>
   obtain ⟨w', h2, hw'⟩ := a2L s e (fun z => z)
   simp [h2]
theorem W5 (s : Step d3 (a3I o) c H o' c' H') : Step d3 o c H (S0 o o') c' H' where
 keep := fun a u e n => s.keep a u e fun w hw hv => by
  cases q : o a with
  | none => have := (forC_none (o := o)).mpr q; rw [hw] at this; cases this
  | some w' =>
   cases w with
   | cell m =>
    have := forC_cell.mp hw
    exact n _ this trivial
   | _ => exact hv
 own := fun a w e n => by
  unfold S0
  rw [e]
  cases w with
  | cell m => exact absurd trivial n
  | _ => rfl
 new := fun a e n => by
  have e2 : S0 o o' a = o' a := by unfold S0; rw [e]
  rw [e2] at n
  exact s.new a (forC_none.mpr e) n
 pre := s.pre
theorem b2w (s : Step d3 (a3I o) c H o' c' H') (q : CS K o' c' S' H') : CS K (S0 o o') c' S' H' :=
 q.same (fun a => (a4T s).symm) fun a n e => by
  unfold S0
  cases e1 : o a with
  | none => exact e
  | some w =>
   cases w with
   | cell m => exact e
   | _ =>
    obtain ⟨w', h2, hw'⟩ := a2L s e1 (fun z => z)
    rw [e] at h2; cases h2; rcases hw' with z | z <;> cases z
theorem b4i (s : Step d3 (a3I o) c H o' c' H') (q : CS K o' c' S' H') (r : RepT K o' c' H' .tmp v t) : RepT K (S0 o o') c' H' .tmp v t :=
 r.same q.trk (fun a e => (a4T s).mpr e) (fun a e => by
  unfold S0
  cases e1 : o a with
  | none => exact e
  | some w =>
   cases w with
   | cell m => exact e
   | _ =>
    obtain ⟨w', h2, hw'⟩ := a2L s e1 (fun z => z)
    first
    | rfl
    | (rw [e] at h2; cases h2; rcases hw' with z | z <;> cases z)) fun a e => by
  unfold S0
  cases e1 : o a with
  | none => exact e
  | some w =>
   cases w with
   | cell m => exact e
   | seen => rfl
   | _ =>
    have h1 : a3I o a = some .prot := by unfold a3I; rw [e1]
    have h2 := s.own a _ h1 (fun z => z)
    rw [e] at h2; cases h2
theorem b7q (nt : NT o) (nt' : NT o') : NT (S0 o o') := fun a e => by
 unfold S0 at e
 cases e1 : o a with
 | none => rw [e1] at e; exact nt' a e
 | some w =>
  rw [e1] at e
  cases w with
  | cell m => exact nt' a e
  | tmp => exact nt a e1
  | prot => cases e
  | seen => cases e
  | slot i => cases e
end
def p6 (f : Fn) (fs : SA) : SE := fun ρ S => R.l (fs ρ S) fun ts S1 => f ts S1
section
variable {G : Cc} {pos : Pos} {e : Expr} {es : List Expr}
theorem b42 {W : WX} {t : TA} {n : Nat} {f : Fn} {fs : SA} (h : AR G W t fs) (hn : ∀ ρ S ts S', fs ρ S = .ok ts S' → ts.length = n) : ER G W (tCallS (spD G.K G.mg n f) (WE W) t) (p6 f fs) := by
 intro σ H ρ S o c Q nt rs p
 unfold p6 at p
 refine h σ H ρ S o c _ nt rs ?_
 cases e0 : fs ρ S with
 | bad => rw [e0] at p; exact p
 | exc e' S' => rw [e0] at p; exact p
 | ok ts S1 =>
  rw [e0] at p
  have hl := hn _ _ _ _ e0
  intro vs o1 c1 H1 s1 nt1 rs1 r1
  have p1 : PostE G W o1 c1 ρ σ H1 (f ts S1) Q := PostE.step s1 p
  refine ⟨by rw [r1.1]; exact hl, ts, S1, a3I o1, c1, ⟨r1.1, fun i v t e1 e2 => ?_⟩, b0o, rs1.cs.same (fun a => forC_none.symm) fun a n e => forC_cell.mpr e, ?_⟩
  ·obtain ⟨q1, q2⟩ := r1.2 i v t e1 e2
   refine ⟨q1.same rs1.cs.trk (fun a e => forC_none.mpr e) (fun a e => by unfold a3I; rw [e]) (fun a e => by unfold a3I; rw [e]), q2⟩
  ·cases e : f ts S1 with
   | ok t S2 =>
    rw [e] at p1
    intro v o' c' H' s q ns r
    exact p1 v (S0 o1 o') c' H' (W5 s) (rs1.step (W5 s) (b2w s q)) (b4i s q r)
   | exc e' S2 =>
    rw [e] at p1
    intro cls d o' c' H' s q ns nt' x
    exact p1 cls d (S0 o1 o') c' H' (W5 s) (rs1.step (W5 s) (b2w s q)) (b7q nt1 nt') x
   | bad => rw [e] at p1; exact p1.elim
theorem b4r {ρ : En} {S : Sto} {ts : List T} {S' : Sto} (h : l8 ρ S = .ok ts S') : ts.length = 0 := by cases h; rfl
theorem b1Q {f : SE} {g : SA} {n : Nat} (hg : ∀ ρ S ts S', g ρ S = .ok ts S' → ts.length = n) : ∀ ρ S ts S', d2 f g ρ S = .ok ts S' → ts.length = n + 1 := by
 intro ρ S ts S' h
 unfold d2 at h
 cases e1 : f ρ S with
 | bad => rw [e1] at h; cases h
 | exc _ _ => rw [e1] at h; cases h
 | ok t S1 =>
  rw [e1, R.l_ok] at h
  cases e2 : g ρ S1 with
  | bad => rw [e2] at h; cases h
  | exc _ _ => rw [e2] at h; cases h
  | ok us S2 =>
   rw [e2, R.l_ok] at h
   cases h
   rw [List.length_cons, hg _ _ _ _ e2]
structure AVn (G : Cc) (es : List Expr) (fs : SA) (n : Nat) : Prop where
 av : AV G es fs
 len : ∀ ρ S ts S', fs ρ S = .ok ts S' → ts.length = n
theorem j6 : AVn G [] l8 0 := ⟨j3, fun _ _ _ _ h => b4r h⟩
theorem c9 {f : SE} {g : SA} {n : Nat} (h1 : EV G e f) (h2 : AVn G es g n) (hs : ∀ env : PySem.Env, starEach (e :: es) env = (false, eval e env) :: starEach es env := by intro _; rfl) : AVn G (e :: es) (d2 f g) (n + 1) :=
 ⟨d4 h1 h2.av hs, b1Q h2.len⟩
theorem j7 {x : Str} {p : Pos} {j n : Nat} {f : Fn} {fs : SA} (F : FnD G.P G.w G.K G.mg G.base G.cn j x n f) (ha : AVn G (e :: es) fs n) (hcm : G.hot = none := by rfl) (hj : j ≤ G.k := by (try dsimp only [Cc.blk]); decide) (hg : G.sc.names.lookup x = some .globalImplicit := by rfl) (hdb : (x == ("__debug__" : Str)) = false := by decide)
  (he : ∀ env : PySem.Env, starEach (e :: es) env = (false, eval e env) :: starEach es env := by intro _; rfl) (hpl : ∀ env : PySem.Env, (backTo pos (starEach es env)).any (·.1) = false := by intro _; rfl) : EV G (.Call (.Name x p) (e :: es) [] pos) (p6 f fs) := by
 obtain ⟨⟨t, p1, q1⟩, hl⟩ := ha
 obtain ⟨a, fd, ps, hm, hk, hb, hn, hF⟩ := F.ex
 refine ⟨fun W => tCallS (spD G.K G.mg n f) (WE W) (t W), fun X W k => ?_, fun W => b42 (q1 W) hl⟩
 have hF' : FnOk X.prog X.w X.K X.mg X.base (CXg G.cn X.prog X.w) j a fd ps (spD G.K G.mg n f) := by rw [k.P, k.w, k.K, k.mg, k.base]; exact hF
 exact pe_callS hF' ((k.room0 hcm).mono hj) (k.gl hg) (k.m hm) (by rw [k.K]; exact hk) (by rw [k.K]; exact hb) (fun σ => b1s k.tk σ) (p1 X W k) hdb (he _) (hpl _)

def start0 (n : Nat) (ts : List T) : En := ts.map some ++ List.replicate (n - ts.length) none
abbrev start (N : List Str) (ts : List T) : En := start0 N.length ts
def fnL (n : Nat) (g : SS) : Fn := fun ts S => match g (start0 n ts) S with
 | .nx _ S' => .ok (.val .none) S'
 | .rt t S' => .ok t S'
 | .ex e _ S' => .exc e S'
 | _ => .bad
def A8 : Ow → Bool
 | .slot _ => true
 | _ => false
theorem J2 {o o1 : Gh} {c c1 : Cs} {H H1 : Hp} (cl : b7a o) (s : Step B4 o c H o1 c1 H1) : Step d3 o c H (s9 A8 o1) c1 H1 where
 keep := fun a u e n => s.keep a u e fun w hw hv => by
  rcases cl a w hw with (h | h) | h
  ·subst h; exact hv
  ·subst h; exact hv
  ·exact n w hw h
 own := fun a w e n => by
  rcases cl a w e with (h | h) | h
  ·subst h
   exact f6 (s.own a _ e (fun z => z)) rfl
  ·subst h
   exact f6 (s.own a _ e (fun z => z)) rfl
  ·exact absurd h n
 new := fun a e n => s.new a e (P7 n)
 pre := s.pre
theorem a1W {o : Gh} (a : Addr) (i : Nat) : s9 A8 o a ≠ some (.slot i) := fun h => by
 have := (F4 h).2
 simp [A8] at this
abbrev fnF (N : List Str) (g : SS) : Fn := fnL N.length g
theorem c15 {cn : Bool} {P : Program} {w : World} {K : PySem.W.Frag} {mg : Str → Option Value} {base : Heap} {N : List Str} {qual : Str} {sc : Scope} {f : Addr} {cdv : Value} {A : Around} {outer : List PySem.Env} {s : Shared} {H : Hp} {E : XK} :
  Tk cn (cxOf (CXg cn P w) P w K mg base N qual sc f cdv A outer s H E) (fun cls d _ H => E cls d H) := by
 cases cn with
 | true => exact L2N.takes_of rfl rfl rfl rfl
 | false => exact L2.takes_of rfl rfl rfl rfl
theorem b9V {P : Program} {w : World} {K : PySem.W.Frag} {mg : Str → Option Value} {base : Heap} {cn : Bool} {k : Nat} {x qual : Str} {st : Stmt} {f : Addr} {fd : FuncData} {N ps : List Str} {g : SS}
  {cod : Option (Addr × Str)} (F : Fun K x qual st f fd) (Sc : FnScope N ps (defScope st)) (hlen : ps.length ≤ N.length) (hco : cod = none ∨ (f = He.fAd K (x, none) ∧ cod = some (He.codeOf K (x, none), qual ++ ".<locals>.")))
  (h : SVs ⟨P, w, K, mg, base, N, defScope st, fun _ => true, k, true, none, cn, true, cod⟩ (defBody st) g) : FnOk P w K mg base (CXg cn P w) (k + 1) f fd ps (spD K mg ps.length (fnF N g)) := by
 obtain ⟨oc, od, kV, doc, pm, an, cdv, ct, osl, rfl, lk, hcd⟩ := F.ex
 refine fn_of lk hcd Sc (fun vs H Q E h => h.1) fun A outer s H vs Q E hr hsp => ?_
 obtain ⟨t, p, q⟩ := h
 obtain ⟨hl, ts, S, o, c, rts, cl, cs, post⟩ := hsp
 have hcod : ∀ c q, cod = some (c, q) → cdv = .ref c ∧ qual ++ ".<locals>." = q := fun c q e => by
  rcases hco with z | ⟨z1, z2⟩
  ·rw [z] at e; cases e
  ·rw [z2] at e
   cases e
   obtain ⟨c, hc⟩ := He.codeIn_ref hcd
   subst hc
   subst z1
   exact ⟨by rw [He.codeOf_eq lk rfl], rfl⟩
 have ok : (⟨P, w, K, mg, base, N, defScope st, fun _ => true, k, true, none, cn, true, cod⟩ : Cc).Ok (cxOf (CXg cn P w) P w K mg base N qual (defScope st) f cdv A outer s H E) (fun cls d _ H => E cls d H) :=
  ⟨rfl, rfl, rfl, rfl, rfl, rfl, rfl, rfl, fun _ => rfl, ⟨hr.dp, hr.un⟩, c15, PassesOwn.leaving, fun _ => hr.hd, fun _ => ⟨rfl, rfl⟩, fun _ h => (nomatch h), fun _ _ => PassesOwnAt.leaving, hcod⟩
 refine ⟨t _, p _ _ ok, q _ (L2.start N vs) H (BV.start N ts) S o c _ ?_ ⟨?_, ?_, cs⟩ ?_⟩
 ·intro a e
  rcases cl a _ e with (h | h) | h
  ·cases h
  ·cases h
  ·exact h
 ·unfold BV.start BV.start0 L2.start
  rw [List.length_append, List.length_append, List.length_map, List.length_map, List.length_replicate, List.length_replicate, rts.1]
 ·intro i t' e
  unfold BV.start BV.start0 at e
  by_cases hi : i < ts.length
  ·rw [List.getElem?_append_left (by rw [List.length_map]; exact hi), List.getElem?_map] at e
   have hv : i < vs.length := by rw [rts.1]; exact hi
   have e1 : vs[i]? = some vs[i] := List.getElem?_eq_getElem hv
   have e2 : ts[i]? = some t' := by
    cases e3 : ts[i]? with
    | none => rw [e3] at e; cases e
    | some u => rw [e3] at e; simp only [Option.map_some, Option.some.injEq] at e; rw [e]
   obtain ⟨q1, q2⟩ := rts.2 i _ t' e1 e2
   refine ⟨vs[i], ?_, q1.anyW q2⟩
   unfold L2.start
   rw [List.getElem?_append_left (by rw [List.length_map]; exact hv), List.getElem?_map, e1]
   rfl
  ·rw [List.getElem?_append_right (by rw [List.length_map]; omega)] at e
   rw [List.getElem?_replicate] at e
   split at e <;> cases e
 ·unfold fnF fnL at post
  cases e : g (BV.start N ts) S with
  | nx ρ' S' =>
   rw [e] at post
   intro σ' o' c' H' s' nt' rs'
   exact post .non (s9 A8 o') c' H' (J2 cl s') (rs'.cs.drop fun _ => rfl) a1W (Rep.non)
  | rt t0 S' =>
   rw [e] at post
   intro v o' c' H' s' cs' r'
   exact post v (s9 A8 o') c' H' (J2 cl s') (cs'.drop fun _ => rfl) a1W (r'.drop cs'.trk rfl)
  | ex e' ρ' S' =>
   rw [e] at post
   intro cls d σ' o' c' H' s' nt' rs' x
   exact post cls d (s9 A8 o') c' H' (J2 cl s') (rs'.cs.drop fun _ => rfl) a1W (fun a h => nt' a (F4 h).1) x
  | bk ρ' S' => rw [e] at post; exact post.elim
  | ct ρ' S' => rw [e] at post; exact post.elim
  | bad => rw [e] at post; exact post.elim
theorem b7e {P : Program} {w : World} {K : PySem.W.Frag} {mg : Str → Option Value} {base : Heap} {cn : Bool} {k : Nat} {x qual : Str} {st : Stmt} {f : Addr} {fd : FuncData} {N ps : List Str} {g : SS}
  {cod : Option (Addr × Str)} (F : Fun K x qual st f fd) (Sc : FnScope N ps (defScope st)) (hm : mg x = some (.ref f)) (hb : Binds K fd ps []) (hlen : ps.length ≤ N.length) (hco : cod = none ∨ (f = He.fAd K (x, none) ∧ cod = some (He.codeOf K (x, none), qual ++ ".<locals>.")))
  (h : SVs ⟨P, w, K, mg, base, N, defScope st, fun _ => true, k, true, none, cn, true, cod⟩ (defBody st) g) : FnD P w K mg base cn (k + 1) x ps.length (fnF N g) :=
 ⟨f, fd, ps, hm, F.kp, hb, rfl, b9V F Sc hlen hco h⟩
end
end BV
namespace BV
open PySem L2

def reT (i : Nat) (o : Gh) : Gh := fun a => match o a with
 | some .tmp => some (.slot i)
 | some (.slot j) => if j = i then none else some (.slot j)
 | x => x
section
variable {K : PySem.W.Frag} {o o1 o' : Gh} {c c' : Cs} {H H' : Hp} {S S' : Sto} {v : V} {t : T} {w : Ow} {ρ : En} {σ : L2.St} {i : Nat}
theorem a0o {a : Addr} (h : o a = none) : reT i o a = none := by unfold reT; rw [h]
theorem b5y {a : Addr} (h : reT i o a ≠ none) : o a ≠ none := fun e => h (a0o e)
theorem b54 {a : Addr} (h : o a = some .tmp) : reT i o a = some (.slot i) := by unfold reT; rw [h]
theorem b33 {a : Addr} {n : Nat} (h : o a = some (.cell n)) : reT i o a = some (.cell n) := by unfold reT; rw [h]
theorem b3s {a : Addr} (h : o a = some .prot) : reT i o a = some .prot := by unfold reT; rw [h]
theorem a2R {a : Addr} (h : o a = some .seen) : reT i o a = some .seen := by unfold reT; rw [h]
theorem b3u {a : Addr} {j : Nat} (h : o a = some (.slot j)) (n : j ≠ i) : reT i o a = some (.slot j) := by unfold reT; rw [h]; simp [n]
theorem b5i : NT (reT i o) := fun a h => by
 unfold reT at h
 cases e : o a with
 | none => rw [e] at h; cases h
 | some w =>
  rw [e] at h
  cases w with
  | slot j =>
   by_cases q : j = i
   ·simp [q] at h
   ·simp [q] at h
  | tmp => cases h
  | seen => cases h
  | prot => cases h
  | cell n => cases h
theorem RepT.turn {w' : Ow} (tr : Trk o H) (h : ∀ a, o a = none → o' a = none) (hw : ∀ a, o a = some w → o' a = some w') (hp : ∀ a, o a = some .seen → o' a = some .seen) (r : RepT K o c H w v t) : RepT K o' c H w' v t := by
 have k : Kept o H o' H := Kept.same h
 cases t with
 | val d => exact Rep.kept tr k r
 | own xs =>
  obtain ⟨x, vs, e, q, h', z, ra⟩ := r
  exact ⟨x, vs, e, hw _ q, h', z, ra.kept tr k⟩
 | own2 xss =>
  obtain ⟨x, as, e, q, h', nd, z, le, f⟩ := r
  refine ⟨x, as, e, hw _ q, h', nd, z, le, fun i b xs e1 e2 => ?_⟩
  obtain ⟨q', vs, h'', z', ra⟩ := f i b xs e1 e2
  exact ⟨hw _ q', vs, h'', z', ra.kept tr k⟩
 | ownd kvs =>
  obtain ⟨x, ks, vs, ds, e, q, h', z, z2, ra, e'⟩ := r
  exact ⟨x, ks, vs, ds, e, hw _ q, h', z, z2, ra.kept tr k, e'⟩
 | cel n => exact r
 | scr ns =>
  obtain ⟨x, e, z, h'⟩ := r
  refine ⟨x, e, z, ?_⟩
  rcases h' with h' | ⟨h', n⟩ | h'
  ·exact .inl h'
  ·exact .inr (.inl ⟨h', h _ n⟩)
  ·exact .inr (.inr h')
 | exn _ _ _ _ => exact r
 | tree d =>
  obtain ⟨as, r, nd⟩ := r
  exact ⟨as, r.move (fun x u e q => ⟨e, hw _ q⟩) (fun b us z => SqT.kept tr k z), nd⟩
 | rof b u =>
  obtain ⟨x, fv, e, q, h1, h2, h3⟩ := r
  exact ⟨x, fv, e, hp _ q, h1, h2, h3.moved tr k hp⟩
 | recs b ns => exact RcsR.move (fun x u e q => ⟨e, hw _ q⟩) k (fun _ _ e => e) r
theorem CS.turn (q : CS K o c S H) (h : ∀ a, o a = none → o' a = none) (hc : ∀ a n, o a = some (.cell n) → o' a = some (.cell n)) (hn : ∀ a, o' a ≠ none → o a ≠ none) : CS K o' c S H :=
 q.move (Kept.same h) (fun a n e => ⟨hc a n e, fun u hu => hu⟩) (q.trk.same hn)
theorem RS.put (rs : RS K o c ρ S σ H) (r : RepT K o c H .tmp v t) : RS K (reT i o) c (ρ.set i (some t)) S (σ.set i (some v)) H :=
 ⟨by rw [List.length_set, List.length_set]; exact rs.len, fun j t' e => by
  by_cases q : j = i
  ·subst q
   by_cases hl : j < ρ.length
   ·rw [List.getElem?_set_self hl] at e
    simp only [Option.some.injEq] at e
    subst e
    exact ⟨v, by rw [List.getElem?_set_self (by rw [← rs.len]; exact hl)], r.turn rs.cs.trk (fun a e => a0o e) (fun a e => b54 e) fun a e => a2R e⟩
   ·rw [List.getElem?_eq_none (by rw [List.length_set]; omega)] at e; cases e
  ·rw [List.getElem?_set_ne (Ne.symm q)] at e
   obtain ⟨v', e1, r'⟩ := rs.slot j t' e
   exact ⟨v', by rw [List.getElem?_set_ne (Ne.symm q)]; exact e1, r'.turn rs.cs.trk (fun a e => a0o e) (fun a e => b3u e q) fun a e => a2R e⟩,
  rs.cs.turn (fun a e => a0o e) (fun a n e => b33 e) fun a e => b5y e⟩
theorem Step.re (s : Step B4 o c H o1 c' H') : Step B4 o c H (reT i o1) c' H' where
 keep := s.keep
 own := fun a w e n => by
  have h := s.own a w e n
  cases w with
  | prot => exact b3s h
  | seen => exact a2R h
  | _ => exact absurd trivial n
 new := fun a e n => s.new a e (b5y n)
 pre := s.pre
end

def sE (f : SE) (k : T → En → Sto → Fl) : SS := fun ρ S => match f ρ S with
 | .ok t S1 => k t ρ S1
 | .exc e S1 => .ex e ρ S1
 | .bad => .bad
section
variable {G : Cc} {W : WX} {o o1 : Gh} {c c1 : Cs} {ρ : En} {σ : L2.St} {H H1 : Hp} {pos : Pos} {a b : Expr} {f f1 f2 f3 : SE} {e : Expr} {Dn : Ends} {t : TE}
theorem ER.s {k : T → En → Sto → Fl} {S : Sto} {Q : VK} (h : ER G W t f) (nt : NT o) (rs : RS G.K o c ρ S σ H) (p : PostS G W o c H (sE f k ρ S) Dn)
  (q : ∀ t S1 v o1 c1 H1, Step d3 o c H o1 c1 H1 → RS G.K o1 c1 ρ S1 σ H1 → RepT G.K o1 c1 H1 .tmp v t → PostS G W o1 c1 H1 (k t ρ S1) Dn → Q v H1) : t σ H Q := by
 refine h σ H ρ S o c Q nt rs ?_
 unfold sE at p
 cases e : f ρ S with
 | ok t S1 =>
  rw [e] at p
  exact fun v o' c' H' s rs' r' => q t S1 v o' c' H' s rs' r' (PostS.step s.weak p)
 | exc e S1 =>
  rw [e] at p
  exact fun cls d o' c' H' s rs' nt' x => p cls d σ o' c' H' s.weak nt' rs' x
 | bad => rw [e] at p; exact p
def sD (f : SE) (k : D → En → Sto → Fl) : SS := sE f fun t ρ S => match BV.asD t with | some d => k d ρ S | none => .bad
theorem URd.s {k : BV.D → En → Sto → Fl} {S : Sto} {Q : VK} (h : URd G W t f) (nt : NT o) (rs : RS G.K o c ρ S σ H) (p : PostS G W o c H (sD f k ρ S) Dn)
  (q : ∀ d S1 v o1 c1 H1, Step d3 o c H o1 c1 H1 → NT o1 → RS G.K o1 c1 ρ S1 σ H1 → RepU G.K o1 H1 v d → PostS G W o1 c1 H1 (k d ρ S1) Dn → Q v H1) : t σ H Q := by
 refine h σ H ρ S o c Q nt rs ?_
 unfold sD sE at p
 cases e : f ρ S with
 | ok t S1 =>
  rw [e] at p
  cases e1 : asD t with
  | none => simp only [e1] at p; exact p.elim
  | some d =>
   simp only [e1] at p
   exact ⟨d, e1, fun v o' c' H' s nt' rs' r' => q d S1 v o' c' H' s nt' rs' r' (PostS.step s.weak p)⟩
 | exc e S1 =>
  rw [e] at p
  exact fun cls d o' c' H' s rs' nt' x => p cls d σ o' c' H' s.weak nt' rs' x
 | bad => rw [e] at p; exact p

def u8 (i : Nat) (f : SE) : SS := sE f fun t ρ S => .nx (ρ.set i (some t)) S
theorem g9 (i : Nat) {x : Str} {pos' : Pos} (h : EV G e f) (hN : G.N[i]? = some x := by rfl) (hx : Loc G.sc x := by first | exact Or.inl rfl | exact Or.inr rfl) (nd : G.N.Nodup := by (try dsimp only [Cc.blk]); decide +kernel)
  (hs : ∀ env : PySem.Env, env.scope = G.sc → swapsWith e (some (.Name x pos')) pos.line env = pure false := by intro _ _; rfl) (hf : G.fn x = true ∨ G.sc.names.lookup x = some .local := by first | exact Or.inl rfl | exact Or.inr rfl) : SV G (.Assign [.Name x pos'] e pos) (u8 i f) := by
 obtain ⟨t, p, q⟩ := h
 refine ⟨fun W => tAsg (t W) (gName i), fun X W k => ps_set (k.nd nd) (k.at hN) (k.loc hx) (p X W k) (hs _ k.sc) (k.hf hf), fun W σ H ρ S o c D nt rs ps => ?_⟩
 exact (q W).s nt rs ps fun t S1 v o1 c1 H1 s1 rs1 r1 p1 => p1 _ (reT i o1) c1 H1 Step.refl.re b5i (rs1.put r1)
def G9 (f : SE) : SS := sE f fun t _ S => .rt t S
theorem l6 (h : EV G e f) : SV G (.Return (some e) pos) (G9 f) := by
 obtain ⟨t, p, q⟩ := h
 refine ⟨fun W => tRet (t W), fun X W k => ps_ret (p X W k), fun W σ H ρ S o c D nt rs ps => ?_⟩
 exact (q W).s nt rs ps fun t S1 v o1 c1 H1 s1 rs1 r1 p1 => p1 v o1 c1 H1 Step.refl rs1.cs r1
def a0S (i : Nat) : SS := fun ρ S => match ρ[i]? with
 | some (some t) => .rt t S
 | _ => .bad
def toT (i : Nat) (o : Gh) : Gh := fun a => if o a = some (.slot i) then some .tmp else o a
theorem toT_none {i : Nat} {a : Addr} : toT i o a = none ↔ o a = none := by
 unfold toT
 by_cases h : o a = some (.slot i)
 ·rw [if_pos h, h]; simp
 ·rw [if_neg h]
theorem O3 (i : Nat) {x : Str} {xpos : Pos} (hN : G.N[i]? = some x := by rfl) (hv : Vis G.sc x := by first | exact Or.inl rfl | exact Or.inr (Or.inl rfl) | exact Or.inr (Or.inr rfl))
  (hd : (x == ("__debug__" : Str)) = false := by decide) (hcd : (x == ("__classdict__" : Str)) = false := by decide) : SV G (.Return (some (.Name x xpos)) pos) (a0S i) := by
 refine ⟨fun _ => tRet (tVar i), fun X W k => ps_ret (pe_var (k.at hN) (k.vis hv) hd hcd), fun W σ H ρ S o c D nt rs p => ?_⟩
 unfold a0S at p
 split at p
 ·rename_i t e
  obtain ⟨v, e1, r⟩ := rs.slot i t e
  refine ⟨v, e1, p v (toT i o) c H ⟨fun a u e _ => e, fun a w e n => ?_, fun a e n => absurd (toT_none.mpr e) n, List.prefix_refl c⟩ (rs.cs.turn (fun a e => toT_none.mpr e) (fun a n e => ?_) fun a n e => n (toT_none.mpr e))
   (r.turn rs.cs.trk (fun a e => toT_none.mpr e) (fun a e => by unfold toT; rw [if_pos e]) fun a e => by unfold toT; rw [if_neg (by rw [e]; simp)]; exact e)⟩
  ·unfold toT
   rw [if_neg (fun z => by rw [e] at z; cases z; exact n trivial)]
   exact e
  ·unfold toT
   rw [if_neg (fun z => by rw [e] at z; cases z)]
   exact e
 ·exact p.elim
def sIf (g : SB) (f1 f2 : SS) : SS := fun ρ S => match g ρ S with
 | .ok b S1 => if b = true then f1 ρ S1 else f2 ρ S1
 | .exc e S1 => .ex e ρ S1
 | .bad => .bad
theorem B3 {cc : Expr} {as bs : List Stmt} {g : SB} {u1 u2 : SS} (h : TV G cc g) (h1 : SVs G as u1) (h2 : SVs G bs u2) : SV G (.If cc as bs pos) (sIf g u1 u2) := by
 obtain ⟨t, p, q⟩ := h
 obtain ⟨t1, p1, q1⟩ := h1
 obtain ⟨t2, p2, q2⟩ := h2
 refine ⟨fun W => tIfS (t W) (t1 W) (t2 W), fun X W k => ps_if (p X W k) (p1 X W k) (p2 X W k), fun W σ H ρ S o c D nt rs ps => ?_⟩
 refine q W σ H ρ S o c _ nt rs ?_
 unfold sIf at ps
 cases e : g ρ S with
 | ok b S1 =>
  rw [e] at ps
  intro o1 c1 H1 s1 nt1 rs1
  cases b with
  | true =>
   rw [if_pos rfl]
   simp only [if_true] at ps
   exact q1 W σ H1 ρ S1 o1 c1 D nt1 rs1 (PostS.step s1.weak ps)
  | false =>
   rw [if_neg Bool.false_ne_true]
   simp only [Bool.false_eq_true, if_false] at ps
   exact q2 W σ H1 ρ S1 o1 c1 D nt1 rs1 (PostS.step s1.weak ps)
 | exc e S1 =>
  rw [e] at ps
  exact fun cls d o' c' H' s rs' nt' x => ps cls d σ o' c' H' s.weak nt' rs' x
 | bad => rw [e] at ps; exact ps
def c1Q : SS := fun ρ S => .bk ρ S
theorem b4J : SV G (.Break pos) c1Q := ⟨fun _ => tBreak, fun _ _ _ => ps_break, fun W σ H ρ S o c D nt rs ps => ps σ o c H Step.refl nt rs⟩
def b52 (i : Nat) : Ow → Bool
 | .slot j => decide (j = i)
 | _ => false
def fz (i : Nat) (ρ : En) : Option En := match ρ[i]? with
 | some (some t) => (asD t).map fun d => ρ.set i (some (.val d))
 | _ => none
def sFz (i : Nat) (g : SS) : SS := fun ρ S => match fz i ρ with
 | some ρ' => g ρ' S
 | none => .bad
theorem a8A (i : Nat) {sts : List Stmt} {g : SS} (h : SVs G sts g) : SVs G sts (sFz i g) := by
 obtain ⟨t, p, q⟩ := h
 refine ⟨t, p, fun W σ H ρ S o c D nt rs ps => ?_⟩
 unfold sFz fz at ps
 cases e : ρ[i]? with
 | none => rw [e] at ps; exact ps.elim
 | some u =>
  cases u with
  | none => rw [e] at ps; exact ps.elim
  | some tt =>
   rw [e] at ps
   cases e1 : asD tt with
   | none => simp only [e1, Option.map_none] at ps; exact ps.elim
   | some d =>
    simp only [e1, Option.map_some] at ps
    obtain ⟨v, ev, r⟩ := rs.slot i tt e
    have hi := (List.getElem?_eq_some_iff.mp e).1
    -- its owner: temporary, then let go
    have r1 : RepT G.K (toT i o) c H .tmp v tt := r.turn rs.cs.trk (fun a e => toT_none.mpr e) (fun a e => by unfold toT; rw [if_pos e]) fun a e => by unfold toT; rw [if_neg (by rw [e]; simp)]; exact e
    have tr1 : Trk (toT i o) H := rs.cs.trk.same fun a n e => n (toT_none.mpr e)
    have r2 := r1.toD tr1 e1
    have un : ∀ a, unT (toT i o) a = s9 (b52 i) o a := fun a => by
     unfold unT s9 toT
     by_cases h : o a = some (.slot i)
     ·rw [if_pos h, h]; simp [b0S, b52]
     ·rw [if_neg h]
      cases e : o a with
      | none => rfl
      | some w =>
       cases w with
       | slot j =>
        have : ¬ j = i := fun z => h (by rw [e, z])
        simp [b0S, b52, this]
       | tmp => exact absurd e (nt a)
       | _ => rfl
    have un' : unT (toT i o) = s9 (b52 i) o := funext un
    rw [un'] at r2
    have s : Step B4 o c H (s9 (b52 i) o) c H := ⟨fun a u e _ => e, fun a w e n => f6 e (by cases w <;> first | rfl | exact absurd trivial n), fun a e n => absurd (m9 e) n, List.prefix_refl c⟩
    refine q W σ H _ S (s9 (b52 i) o) c D (fun a h => nt a (F4 h).1) ⟨by rw [List.length_set]; exact rs.len, fun j t' ej => ?_, rs.cs.drop fun _ => rfl⟩ (PostS.step s ps)
    by_cases hj : j = i
    ·subst hj
     rw [List.getElem?_set_self hi] at ej
     simp only [Option.some.injEq] at ej
     subst ej
     exact ⟨v, ev, r2⟩
    ·rw [List.getElem?_set_ne (Ne.symm hj)] at ej
     obtain ⟨v', e2, r3⟩ := rs.slot j t' ej
     exact ⟨v', e2, r3.drop rs.cs.trk (by simp [b52, hj])⟩
end
end BV
namespace BV
open PySem L2

abbrev BT1 := D → En → Option En
def GR (K : PySem.W.Frag) (L : List Nat) (g : TG) (b : BT1) : Prop := ∀ (σ : L2.St) (H : Hp) (ρ ρ' : En) (S : Sto) (o : Gh) (c : Cs) (v : V) (d : D) (Q : L2.St → Hp → Prop), NT o → RS K o c ρ S σ H → Rep K o H v d → b d ρ = some ρ' →
 (∀ σ', RS K o c ρ' S σ' H → (∀ (j : Nat), j ∉ L → σ'[j]? = σ[j]?) → σ'.length = σ.length → Q σ' H) → g v σ H Q
def GV (G : Cc) (tg : Expr) (L : List Nat) (b : BT1) : Prop := ∃ g : TG, (∀ X W, G.Ok X W → PG X tg g) ∧ GR G.K L g b
def f8 (i : Nat) : BT1 := fun d ρ => some (ρ.set i (some (.val d)))
theorem RS.putV {K : PySem.W.Frag} {o : Gh} {c : Cs} {ρ : En} {S : Sto} {σ : L2.St} {H : Hp} {v : V} {d : D} {i : Nat} (rs : RS K o c ρ S σ H) (r : Rep K o H v d) : RS K o c (ρ.set i (some (.val d))) S (σ.set i (some v)) H :=
 ⟨by rw [List.length_set, List.length_set]; exact rs.len, fun j t' e => by
  by_cases q : j = i
  ·subst q
   by_cases hl : j < ρ.length
   ·rw [List.getElem?_set_self hl] at e
    simp only [Option.some.injEq] at e
    subst e
    exact ⟨v, by rw [List.getElem?_set_self (by rw [← rs.len]; exact hl)], r⟩
   ·rw [List.getElem?_eq_none (by rw [List.length_set]; omega)] at e; cases e
  ·rw [List.getElem?_set_ne (Ne.symm q)] at e
   obtain ⟨v', e1, r'⟩ := rs.slot j t' e
   exact ⟨v', by rw [List.getElem?_set_ne (Ne.symm q)]; exact e1, r'⟩, rs.cs⟩
section
variable {G : Cc} {W : WX} {pos : Pos}
theorem f9 (i : Nat) {x : Str} (hN : G.N[i]? = some x := by rfl) (hx : Loc G.sc x := by first | exact Or.inl rfl | exact Or.inr rfl) (nd : G.N.Nodup := by (try dsimp only [Cc.blk]); decide +kernel)
  (hf : G.fn x = true ∨ G.sc.names.lookup x = some .local := by first | exact Or.inl rfl | exact Or.inr rfl) : GV G (.Name x pos) [i] (f8 i) := by
 refine ⟨gName i, fun X W k => pg_name (k.nd nd) (k.at hN) (k.loc hx) (k.hf hf), fun σ H ρ ρ' S o c v d Q nt rs r e q => ?_⟩
 cases e
 exact q _ (rs.putV r) (fun j hj => by rw [List.getElem?_set_ne (fun z => hj (by simp [z]))]) (by rw [List.length_set])
abbrev BTs := List D → En → Option En
def GRs (K : PySem.W.Frag) (L : List Nat) (g : TGs) (b : BTs) : Prop := ∀ (σ : L2.St) (H : Hp) (ρ ρ' : En) (S : Sto) (o : Gh) (c : Cs) (vs : List V) (ds : List D) (Q : L2.St → Hp → Prop), NT o → RS K o c ρ S σ H → RepAll K o H vs ds → b ds ρ = some ρ' →
 (∀ σ', RS K o c ρ' S σ' H → (∀ (j : Nat), j ∉ L → σ'[j]? = σ[j]?) → σ'.length = σ.length → Q σ' H) → g vs σ H Q
def GVs (G : Cc) (tg : List Expr) (L : List Nat) (b : BTs) : Prop := ∃ g : TGs, (∀ X W, G.Ok X W → PGs X tg g) ∧ GRs G.K L g b
def a0l : BTs := fun ds ρ => match ds with | [] => some ρ | _ => none
def m3 (b : BT1) (bs : BTs) : BTs := fun ds ρ => match ds with | d :: r => (b d ρ).bind (bs r) | [] => none
theorem F8 : GVs G [] [] a0l := by
 refine ⟨gNil, fun X W k => pgs_nil, fun σ H ρ ρ' S o c vs ds Q nt rs r e q => ?_⟩
 cases r with
 | nil =>
  cases e
  exact ⟨rfl, q σ rs (fun _ _ => rfl) rfl⟩
 | cons _ _ _ _ _ _ => cases e
theorem k6 {e : Expr} {es : List Expr} {L1 L2 : List Nat} {b : BT1} {bs : BTs} (h1 : GV G e L1 b) (h2 : GVs G es L2 bs)
  (hs : ∀ env : PySem.Env, (assignEach (e :: es) env).map (·.2) = assign e env :: (assignEach es env).map (·.2) := by intro _; rfl) : GVs G (e :: es) (L1 ++ L2) (m3 b bs) := by
 obtain ⟨g1, p1, q1⟩ := h1
 obtain ⟨g2, p2, q2⟩ := h2
 refine ⟨gCons g1 g2, fun X W k => pgs_cons (p1 X W k) (p2 X W k) (hs _), fun σ H ρ ρ' S o c vs ds Q nt rs r e q => ?_⟩
 cases r with
 | nil => cases e
 | cons v d vs ds r1 r2 =>
  have e' : (b d ρ).bind (bs ds) = some ρ' := e
  cases e1 : b d ρ with
  | none => rw [e1] at e'; cases e'
  | some ρ1 =>
   rw [e1] at e'
   refine ⟨v, vs, rfl, q1 σ H ρ ρ1 S o c v d _ nt rs r1 e1 fun σ1 rs1 f1 l1 => ?_⟩
   refine q2 σ1 H ρ1 ρ' S o c vs ds Q nt rs1 r2 e' fun σ2 rs2 f2 l2 => ?_
   refine q σ2 rs2 (fun j hj => ?_) (l2.trans l1)
   rw [List.mem_append, not_or] at hj
   rw [f2 j hj.2, f1 j hj.1]
def a0e (n : Nat) (bs : BTs) : BT1 := fun d ρ => match d with
 | .tuple ds => if ds.length = n then bs ds ρ else none
 | .list ds => if ds.length = n then bs ds ρ else none
 | _ => none
theorem c2f {X : Cx} {tg : Expr} {g g' : TG} (h : PG X tg g) (h' : PG X tg g') : PG X tg (fun v σ H Q => g v σ H Q ∨ g' v σ H Q) := ⟨fun pins s σ H v u Q I r q => q.elim (h.run pins s σ H v u Q I r) (h'.run pins s σ H v u Q I r)⟩
theorem O9 {es : List Expr} {kk n : Nat} {L : List Nat} {bs : BTs} (h : GVs G es L bs) (hcm : G.hot = none := by rfl) (hn : ∀ env : PySem.Env, (assignEach es env).length = n := by intro _; rfl) (hst : ∀ env : PySem.Env, (assignEach es env).findIdx? (·.1) = none := by intro _; rfl) :
  GV G (.Tuple es kk pos) L (a0e n bs) := by
 obtain ⟨g, p, q⟩ := h
 refine ⟨fun v σ H Q => gTup G.K n g v σ H Q ∨ gLst G.K n g v σ H Q, fun X W k => ?_, fun σ H ρ ρ' S o c v d Q nt rs r e qq => ?_⟩
 ·have t1 := pg_tup (pos := pos) (k := kk) (k.calm hcm) (p X W k) (hn _) (hst _)
  have t2 := pg_lst (pos := pos) (k := kk) (k.calm hcm) (p X W k) (hn _) (hst _)
  rw [k.K] at t1 t2
  exact c2f t1 t2
 cases d with
 | tuple ds =>
  have e' : (if ds.length = n then bs ds ρ else none) = some ρ' := e
  by_cases hl : ds.length = n
  ·rw [if_pos hl] at e'
   obtain ⟨a, vs, e1, h1, z1, ra⟩ := r.tupV
   exact .inl ⟨a, vs, e1, h1, by rw [ra.length]; exact hl, q σ H ρ ρ' S o c vs ds Q nt rs ra e' qq⟩
  ·rw [if_neg hl] at e'; cases e'
 | list ds =>
  have e' : (if ds.length = n then bs ds ρ else none) = some ρ' := e
  by_cases hl : ds.length = n
  ·rw [if_pos hl] at e'
   obtain ⟨a, vs, e1, h1, _, z1, ra⟩ := r.lstV
   exact .inr ⟨a, vs, e1, SqL.of h1, by rw [ra.length]; exact hl, q σ H ρ ρ' S o c vs ds Q nt rs ra e' qq⟩
  ·rw [if_neg hl] at e'; cases e'
 | _ => cases e
end

def b4L (vol : Ow → Prop) (K : PySem.W.Frag) (J : It) (o : Gh) (c : Cs) (H : Hp) (ds : List D) : Prop := ds.length ≤ sizeLine ∧ ∀ o1 c1 H1, Step vol o c H o1 c1 H1 → Trk o1 H1 → ∀ i, (ds.length ≤ i → J.stop i H1) ∧
 ∀ d, ds[i]? = some d → J.go i H1 ∧ ∀ x H2, J.yld i H1 x H2 → (∀ a u, H1 a = some u → H2 a = some u) ∧ Rep K o1 H2 x d
def b7r (vol : Ow → Prop) (G : Cc) (W : WX) (o : Gh) (c : Cs) (ρ : En) (σ : L2.St) (H : Hp) (r : R (List D)) (Q : It → Hp → Prop) : Prop := match r with
 | .ok ds S' => ∀ J o' c' H', Step d3 o c H o' c' H' → NT o' → RS G.K o' c' ρ S' σ H' → b4L vol G.K J o' c' H' ds → Q J H'
 | .exc e S' => ∀ cls d o' c' H', Step d3 o c H o' c' H' → RS G.K o' c' ρ S' σ H' → NT o' → b3n G.mg H' cls d e → W cls d σ H'
 | .bad => False
abbrev SI := En → Sto → R (List D)
def IR (vol : Ow → Prop) (G : Cc) (W : WX) (t : TI) (f : SI) : Prop := ∀ (σ : L2.St) (H : Hp) (ρ : En) (S : Sto) (o : Gh) (c : Cs) (Q : It → Hp → Prop), NT o → RS G.K o c ρ S σ H → b7r vol G W o c ρ σ H (f ρ S) Q → t σ H Q
def IV (vol : Ow → Prop) (G : Cc) (tg e : Expr) (f : SI) : Prop := ∃ t : WX → TI, (∀ X W, G.Ok X W → PI X tg e (t W)) ∧ ∀ W, IR vol G W (t W) f
def b8h : D → Option (List D)
 | .list xs => some xs
 | .tuple xs => some xs
 | .str x => some (x.cps.toList.map fun c => .str ⟨#[c]⟩)
 | _ => none
def a07 (f : SE) : SI := fun ρ S => match f ρ S with
 | .ok t S1 => (match (asD t).bind b8h with | some ds => .ok ds S1 | none => .bad)
 | .exc e S1 => .exc e S1
 | .bad => .bad
theorem b4R {X : Cx} {tg e : Expr} {w w' : TI} (h : PI X tg e w) (h' : PI X tg e w') : PI X tg e (fun σ H R => w σ H R ∨ w' σ H R) := ⟨fun pins s σ H R I q => q.elim (h.run pins s σ H R I) (h'.run pins s σ H R I)⟩
section
variable {G : Cc} {W : WX} {pos : Pos} {e tg : Expr} {f : SE} {vol : Ow → Prop}
theorem SqT.stay {K : PySem.W.Frag} {o o1 : Gh} {c c1 : Cs} {H H1 : Hp} (tr : Trk o H) (s : Step vol o c H o1 c1 H1) {a : Addr} {vs : List V} (h : SqT K H a vs) : SqT K H1 a vs := BV.SqT.kept tr s.kept h
theorem b1F {K : PySem.W.Frag} {o : Gh} {c : Cs} {H : Hp} {a : Addr} {vs : List V} {ds : List D} (tr : Trk o H) (h : H a = some (.lst vs)) (n : ∀ w, o a = some w → ¬ vol w) (z : vs.length ≤ sizeLine) (r : RepAll K o H vs ds) : b4L vol K (Itl K a) o c H ds := by
 refine ⟨by rw [← r.length]; exact z, fun o1 c1 H1 s tr1 i => ?_⟩
 have h1 := s.keep a _ h n
 have r1 := r.step tr s
 refine ⟨fun hl => ⟨vs, .of h1, by rw [r.length]; exact hl⟩, fun d e => ?_⟩
 obtain ⟨v, e1, rv⟩ := r1.get e
 refine ⟨⟨vs, v, .of h1, e1⟩, fun x H2 y => ?_⟩
 obtain ⟨e2, y⟩ := y
 have e3 := y vs (.of h1)
 rw [e1] at e3
 cases e3
 subst e2
 exact ⟨fun _ _ q => q, rv⟩
theorem b43 {K : PySem.W.Frag} {o : Gh} {c : Cs} {H : Hp} {a : Addr} {vs : List V} {ds : List D} (tr : Trk o H) (h : SqT K H a vs) (z : vs.length ≤ sizeLine) (r : RepAll K o H vs ds) : b4L vol K (Itt K a) o c H ds := by
 refine ⟨by rw [← r.length]; exact z, fun o1 c1 H1 s tr1 i => ?_⟩
 have h1 := SqT.stay tr s h
 have r1 := r.step tr s
 refine ⟨fun hl => ⟨vs, h1, by rw [r.length]; exact hl⟩, fun d e => ?_⟩
 obtain ⟨v, e1, rv⟩ := r1.get e
 refine ⟨⟨vs, v, h1, e1⟩, fun x H2 y => ?_⟩
 obtain ⟨e2, y⟩ := y
 have e3 := y vs h1
 rw [e1] at e3
 cases e3
 subst e2
 exact ⟨fun _ _ q => q, rv⟩
theorem b40 {K : PySem.W.Frag} {o : Gh} {c : Cs} {H : Hp} {x : Str} (hx : PyData.strOk x = true) (hl : x.length ≤ sizeLine) : b4L vol K (Its x) o c H (x.cps.toList.map fun c => .str ⟨#[c]⟩) := by
 have e0 : (x.cps.toList.map fun c => (PyData.str ⟨#[c]⟩)).length = x.cps.size := by rw [List.length_map]; simp
 refine ⟨by rw [e0]; exact hl, fun o1 c1 H1 s tr1 i => ⟨fun h => by rw [e0] at h; exact h, fun d e => ?_⟩⟩
 rw [List.getElem?_map] at e
 cases q : x.cps.toList[i]? with
 | none => rw [q] at e; cases e
 | some m =>
  rw [q] at e
  simp only [Option.map_some, Option.some.injEq] at e
  subst e
  have hi : i < x.cps.size := by have := (List.getElem?_eq_some_iff.mp q).1; simpa using this
  refine ⟨hi, fun y H2 yy => ?_⟩
  obtain ⟨e1, c', e2, e3⟩ := yy
  have : x.cps.toList[i]? = some c' := by rw [← e2]; simp
  rw [q] at this
  cases this
  subst e1 e3
  exact ⟨fun _ _ q => q, .str _ (a48 hx (List.mem_of_getElem? q)) a8W⟩
theorem b1z (h : EV G e f) : IV vol G tg e (a07 f) := by
 obtain ⟨t, p, q⟩ := h
 refine ⟨fun W σ H R => (iList G.K (t W) σ H R ∨ iTup G.K (t W) σ H R) ∨ iStr (t W) σ H R, fun X W k => ?_, fun W σ H ρ S o c Q nt rs ps => ?_⟩
 ·have := b4R (b4R (pi_list (tg := tg) (p X W k)) (pi_tup (p X W k))) (pi_str (p X W k))
  rw [k.K] at this
  exact this
 unfold a07 at ps
 cases e : f ρ S with
 | bad => rw [e] at ps; exact ps.elim
 | exc e' S' =>
  rw [e] at ps
  refine .inl (.inl (q W σ H ρ S o c _ nt rs ?_))
  rw [e]; exact ps
 | ok t0 S' =>
  rw [e] at ps
  cases e1 : asD t0 with
  | none => simp only [e1, Option.bind_none] at ps; exact ps.elim
  | some d =>
   simp only [e1, Option.bind_some] at ps
   cases d with
   | list xs =>
    refine .inl (.inl (q W σ H ρ S o c _ nt rs ?_))
    rw [e]
    intro v o' c' H' s rs' r'
    have r2 := r'.toD rs'.cs.trk e1
    obtain ⟨a, vs, e2, h1, h2, h3, h4⟩ := r2.lstV
    exact ⟨a, e2, ⟨vs, .of h1⟩, ps _ (unT o') c' H' (s.untmp nt) C2 rs'.untmp (b1F rs'.untmp.cs.trk h1 (fun w hw => by rw [h2] at hw; cases hw) h3 h4)⟩
   | tuple xs =>
    refine .inl (.inr (q W σ H ρ S o c _ nt rs ?_))
    rw [e]
    intro v o' c' H' s rs' r'
    have r2 := r'.toD rs'.cs.trk e1
    obtain ⟨a, vs, e2, h1, h3, h4⟩ := r2.tupV
    exact ⟨a, e2, ⟨vs, h1⟩, ps _ (unT o') c' H' (s.untmp nt) C2 rs'.untmp (b43 rs'.untmp.cs.trk h1 h3 h4)⟩
   | str x =>
    refine .inr (q W σ H ρ S o c _ nt rs ?_)
    rw [e]
    intro v o' c' H' s rs' r'
    have r2 := r'.toD rs'.cs.trk e1
    obtain ⟨e2, h1, h2⟩ := r2.strV
    exact ⟨x, e2, ps _ (unT o') c' H' (s.untmp nt) C2 rs'.untmp (b40 h1 h2)⟩
   | _ => exact ps.elim
theorem a1S (h : UV G e f) : IV d3 G tg e (a07 f) := by
 obtain ⟨t, p, q⟩ := h
 refine ⟨fun W σ H R => (iList G.K (t W) σ H R ∨ iTup G.K (t W) σ H R) ∨ iStr (t W) σ H R, fun X W k => ?_, fun W σ H ρ S o c Q nt rs ps => ?_⟩
 ·have := b4R (b4R (pi_list (tg := tg) (p X W k)) (pi_tup (p X W k))) (pi_str (p X W k))
  rw [k.K] at this
  exact this
 unfold a07 at ps
 cases e : f ρ S with
 | bad => rw [e] at ps; exact ps.elim
 | exc e' S' =>
  rw [e] at ps
  refine .inl (.inl (q W σ H ρ S o c _ nt rs ?_))
  rw [e]; exact ps
 | ok t0 S' =>
  rw [e] at ps
  cases e1 : asD t0 with
  | none => simp only [e1, Option.bind_none] at ps; exact ps.elim
  | some d =>
   simp only [e1, Option.bind_some] at ps
   cases d with
   | list xs =>
    refine .inl (.inl (q W σ H ρ S o c _ nt rs ?_))
    rw [e]
    refine ⟨_, e1, fun v o' c' H' s nt' rs' r2 => ?_⟩
    obtain ⟨a, vs, e2, h1, h2, h3, h4⟩ := r2.lstV
    exact ⟨a, e2, ⟨vs, .of h1⟩, ps _ o' c' H' s nt' rs' (b1F rs'.cs.trk h1 h2 h3 h4)⟩
   | tuple xs =>
    refine .inl (.inr (q W σ H ρ S o c _ nt rs ?_))
    rw [e]
    refine ⟨_, e1, fun v o' c' H' s nt' rs' r2 => ?_⟩
    obtain ⟨a, vs, e2, h1, h3, h4⟩ := r2.tupV
    exact ⟨a, e2, ⟨vs, h1⟩, ps _ o' c' H' s nt' rs' (b43 rs'.cs.trk h1 h3 h4)⟩
   | str x =>
    refine .inr (q W σ H ρ S o c _ nt rs ?_)
    rw [e]
    refine ⟨_, e1, fun v o' c' H' s nt' rs' r2 => ?_⟩
    obtain ⟨e2, h1, h2⟩ := r2.strV
    exact ⟨x, e2, ps _ o' c' H' s nt' rs' (b40 h1 h2)⟩
   | _ => exact ps.elim
end
end BV
namespace BV
open PySem L2

def Y3 (b : BT1) (body : SS) : List D → SS
 | [], ρ, S => .nx ρ S
 | d :: ds, ρ, S => match b d ρ with
  | none => .bad
  | some ρ1 => match body ρ1 S with
   | .nx ρ2 S2 => Y3 b body ds ρ2 S2
   | .ct ρ2 S2 => Y3 b body ds ρ2 S2
   | .bk ρ2 S2 => .nx ρ2 S2
   | x => x
def a1t (src : SI) (b : BT1) (body : SS) : SS := fun ρ S => match src ρ S with
 | .ok ds S1 => Y3 b body ds ρ S1
 | .exc e S1 => .ex e ρ S1
 | .bad => .bad
section
variable {G : Cc} {W : WX} {pos : Pos} {e tg : Expr} {vol : Ow → Prop}
theorem O0 {o : Gh} {c : Cs} {H H2 : Hp} (h : ∀ a u, H a = some u → H2 a = some u) : Step vol o c H o c H2 := ⟨fun a u e _ => h a u e, fun _ _ e _ => e, fun _ e n => absurd e n, List.prefix_refl c⟩
theorem a6W {K : PySem.W.Frag} {o : Gh} {c : Cs} {S : Sto} {H H2 : Hp} (q : CS K o c S H) (h : ∀ a u, H a = some u → H2 a = some u) : CS K o c S H2 :=
 q.move (O0 (vol := d3) (c := c) h).kept (fun a n e => ⟨e, fun u hu => h a u hu⟩) fun a n => by
  obtain ⟨u, e, q⟩ := q.trk a n
  exact ⟨u, h a u e, q⟩
theorem b6C {K : PySem.W.Frag} {o : Gh} {c : Cs} {ρ : En} {S : Sto} {σ : L2.St} {H H2 : Hp} (r : RS K o c ρ S σ H) (h : ∀ a u, H a = some u → H2 a = some u) : RS K o c ρ S σ H2 := r.step (O0 h) (a6W r.cs h)
theorem D4 {L : List Nat} {iter : Expr} {body : List Stmt} {src : SI} {b : BT1} {g : SS} (hi : IV B4 G tg iter src) (hg : GV G tg L b) (hb : SVs G body g) (hcm : G.hot = none := by rfl) (hs : ∀ (env : PySem.Env) x, foldedSetIterable iter env x = pure x := by intro _ _; rfl) :
  SV G (.For tg iter body [] pos) (a1t src b g) := by
 obtain ⟨wi, pi, qi⟩ := hi
 obtain ⟨gg, pg, qg⟩ := hg
 obtain ⟨tb, pb, qb⟩ := hb
 refine ⟨fun W => tFor (wi W) gg (tb W), fun X W k => ps_for k.po (k.calm hcm) (pi X W k) (pg X W k) (pb X W k) (hs _), fun W σ H ρ S o c D nt rs ps => ?_⟩
 refine qi W σ H ρ S o c _ nt rs ?_
 unfold a1t at ps
 cases e : src ρ S with
 | bad => rw [e] at ps; exact ps.elim
 | exc e' S' =>
  rw [e] at ps
  exact fun cls d o' c' H' s rs' nt' x => ps cls d σ o' c' H' s.weak nt' rs' x
 | ok ds S1 =>
  rw [e] at ps
  intro J o1 c1 H1 s1 nt1 rs1 it
  have ps1 : PostS G W o1 c1 H1 (Y3 b g ds ρ S1) D := PostS.step s1.weak ps
  refine ⟨fun i m σ H => m = ds.length - i ∧ i ≤ ds.length ∧ ∃ ρ S o c, Step B4 o1 c1 H1 o c H ∧ NT o ∧ RS G.K o c ρ S σ H ∧ PostS G W o c H (Y3 b g (ds.drop i) ρ S) D,
   ⟨ds.length, by simp, Nat.zero_le _, ρ, S1, o1, c1, Step.refl, nt1, rs1, by rw [List.drop_zero]; exact ps1⟩, ?_⟩
  rintro i m σ2 H2 ⟨rfl, hi, ρ2, S2, o2, c2, s2, nt2, rs2, p2⟩
  obtain ⟨stop, go⟩ := it.2 o2 c2 H2 s2 rs2.cs.trk i
  by_cases hlt : i < ds.length
  ·obtain ⟨gg1, gg2⟩ := go ds[i] (List.getElem?_eq_getElem hlt)
   rw [List.drop_eq_getElem_cons hlt] at p2
   refine .inr ⟨gg1, fun σ' H' => ∃ ρ S o c, Step B4 o1 c1 H1 o c H' ∧ NT o ∧ RS G.K o c ρ S σ' H' ∧ PostS G W o c H' (Y3 b g (ds.drop (i + 1)) ρ S) D, fun σ' H' q => ⟨ds.length - (i + 1), by omega, rfl, hlt, q⟩, fun x H3 y => ?_⟩
   obtain ⟨gr, rx⟩ := gg2 x H3 y
   have rs3 := b6C rs2 gr
   have s3 : Step B4 o2 c2 H2 o2 c2 H3 := O0 gr
   have p3 := PostS.step s3 p2
   unfold Y3 at p3
   cases eb : b ds[i] ρ2 with
   | none => rw [eb] at p3; exact p3.elim
   | some ρ4 =>
    rw [eb] at p3
    refine qg σ2 H3 ρ2 ρ4 S2 o2 c2 x ds[i] _ nt2 rs3 rx eb fun σ4 rs4 _ _ => ?_
    have p4 := p3
    have sa : Step B4 o1 c1 H1 o2 c2 H3 := s2.trans s3
    refine qb W σ4 H3 ρ4 S2 o2 c2 _ nt2 rs4 ?_
    cases ef : g ρ4 S2 with
    | nx ρ5 S5 =>
     simp only [ef] at p4
     exact fun σ' o' c' H' s nt' rs' => ⟨ρ5, S5, o', c', sa.trans s, nt', rs', PostS.step s p4⟩
    | ct ρ5 S5 =>
     simp only [ef] at p4
     exact fun σ' o' c' H' s nt' rs' => ⟨ρ5, S5, o', c', sa.trans s, nt', rs', PostS.step s p4⟩
    | bk ρ5 S5 =>
     simp only [ef] at p4
     exact p4
    | rt t5 S5 =>
     simp only [ef] at p4
     exact p4
    | ex e5 ρ5 S5 =>
     simp only [ef] at p4
     exact p4
    | bad => simp only [ef] at p4; exact p4
  ·have ei : i = ds.length := by omega
   subst ei
   rw [List.drop_length] at p2
   exact .inl ⟨stop (Nat.le_refl _), p2 σ2 o2 c2 H2 Step.refl nt2 rs2⟩

def t6 (ρ : En) : List Nat → En
 | [] => ρ
 | v :: vs => (t6 ρ vs).set v none
def lcM (b : BT1) (tt : SB) (elt : SE) (ρ : En) : List D → Sto → R (List D)
 | [], S => .ok [] S
 | d :: ds, S => match b d ρ with
  | none => .bad
  | some ρ1 => match tt ρ1 S with
   | .ok true S1 => (match elt ρ1 S1 with
    | .ok t S2 => (match asD t with
     | some x => R.l (lcM b tt elt ρ ds S2) fun xs S3 => .ok (x :: xs) S3
     | none => .bad)
    | _ => .bad)
   | .ok false S1 => lcM b tt elt ρ ds S1
   | _ => .bad
def cLc (src : SI) (b : BT1) (tt : SB) (elt : SE) (vs : List Nat) : SE := fun ρ S => R.l (src ρ S) fun ds S1 => R.l (lcM b tt elt (t6 ρ vs) ds S1) fun xs S2 => .ok (.own xs) S2
def TVs (G : Cc) (ifs : List Expr) (f : SB) : Prop := ∃ t : WX → TT, (∀ X W, G.Ok X W → PTs X ifs (t W)) ∧ ∀ W, TR G W (t W) f
def a2o : SB := fun _ S => .ok true S
theorem S8 : TVs G [] a2o := ⟨fun _ => tYes, fun _ _ _ => pts_nil, fun W σ H ρ S o c Q nt rs p => p o c H Step.refl nt rs⟩
theorem a0M {f : SB} (h : TV G e f) : TVs G [e] f := by
 obtain ⟨t, p, q⟩ := h
 exact ⟨t, fun X W k => pts_one (p X W k), q⟩
theorem b47 {cn : Bool} {X : Cx} : Tk cn X (fun _ _ _ _ => False) := Tk.no
theorem Cc.Ok.blk {X : Cx} (k : G.Ok X W) (hcm : G.hot = none) (scope : Scope) (s : Shared) (H : Hp) (C : Addr) (cl : List (Str × Addr)) (fp : List Addr) : (G.blk scope).Ok (X.blk s H scope (compEnvC scope cl C X.env) fp) (fun _ _ _ _ => False) :=
 ⟨k.P, k.w, k.K, k.mg, k.base, k.N, by show relS scope X.env.scope = relS scope G.sc; rw [k.sc], rfl, k.calm, k.room, b47, PassesOwn.never, k.hd, fun h => (nomatch h), fun h e => (by rw [show (G.blk scope).hot = G.hot from rfl, hcm] at e; cases e), fun h => (nomatch h), fun _ _ h => (nomatch h)⟩
theorem RS.wipe {K : PySem.W.Frag} {o : Gh} {c : Cs} {ρ : En} {S : Sto} {σ : L2.St} {H : Hp} (rs : RS K o c ρ S σ H) : ∀ vs : List Nat, RS K o c (t6 ρ vs) S (L2.wipe σ vs) H
 | [] => rs
 | v :: vs => by
  have ih := RS.wipe rs vs
  refine ⟨?_, fun j t' e => ?_, rs.cs⟩
  ·show ((t6 ρ vs).set v none).length = ((L2.wipe σ vs).set v none).length
   rw [List.length_set, List.length_set]
   exact ih.len
  ·have e' : ((t6 ρ vs).set v none)[j]? = some (some t') := e
   show ∃ v', ((L2.wipe σ vs).set v none)[j]? = some (some v') ∧ _
   by_cases q : j = v
   ·subst q
    by_cases hl : j < (t6 ρ vs).length
    ·rw [List.getElem?_set_self hl] at e'; cases e'
    ·rw [List.getElem?_eq_none (by rw [List.length_set]; omega)] at e'; cases e'
   ·rw [List.getElem?_set_ne (Ne.symm q)] at e' ⊢
    exact ih.slot j t' e'
theorem a8o {σ : L2.St} : ∀ {vs : List Nat} {j : Nat}, j ∉ vs → (L2.wipe σ vs)[j]? = σ[j]?
 | [], _, _ => rfl
 | v :: vs, j, h => by
  simp only [List.mem_cons, not_or] at h
  show ((L2.wipe σ vs).set v none)[j]? = σ[j]?
  rw [List.getElem?_set_ne (Ne.symm h.1)]
  exact a8o h.2
theorem a6G {σ : L2.St} : ∀ {vs : List Nat} {j : Nat}, j ∈ vs → j < σ.length → (L2.wipe σ vs)[j]? = some none
 | v :: vs, j, h, hl => by
  show ((L2.wipe σ vs).set v none)[j]? = some none
  by_cases q : v = j
  ·subst q
   rw [List.getElem?_set_self (by rw [wipe_length]; exact hl)]
  ·rw [List.getElem?_set_ne q]
   rcases List.mem_cons.mp h with h | h
   ·exact absurd h.symm q
   ·exact a6G h hl
theorem b1t {σ σ' : L2.St} {vs L : List Nat} (hL : ∀ j ∈ L, j ∈ vs) (hl : σ'.length = (L2.wipe σ vs).length) (h : ∀ (j : Nat), j ∉ L → σ'[j]? = (L2.wipe σ vs)[j]?) : L2.wipe σ' vs = L2.wipe σ vs := by
 apply List.ext_getElem?
 intro j
 rw [wipe_length] at hl
 by_cases hj : j ∈ vs
 ·by_cases hb : j < σ.length
  ·rw [a6G hj (by rw [hl]; exact hb), a6G hj hb]
  ·rw [List.getElem?_eq_none (by rw [wipe_length]; omega), List.getElem?_eq_none (by rw [wipe_length]; omega)]
 ·rw [a8o hj, h j fun z => hj (hL j z)]
theorem m8 {o : Gh} {H : Hp} {D : Addr} {u : HO} (h : o D ≠ none) : Kept o H o (upd H D u) := fun a x e n => ⟨by rw [upd_ne (fun z => h (by rw [← z]; exact n))]; exact e, n⟩
theorem b3v {K : PySem.W.Frag} {o : Gh} {c : Cs} {S : Sto} {H : Hp} {D : Addr} {u : HO} (q : CS K o c S H) (h : o D = some .prot) (ou : E5 u) : CS K o c S (upd H D u) :=
 q.move (m8 (by rw [h]; simp)) (fun a n e => ⟨e, fun x hx => by rw [upd_ne (fun z => by rw [z, h] at e; cases e)]; exact hx⟩) fun a n => by
  by_cases z : a = D
  ·subst z; exact ⟨u, upd_same, ou⟩
  ·obtain ⟨x, e, q⟩ := q.trk a n
   exact ⟨x, by rw [upd_ne z]; exact e, q⟩
def N4 (o : Gh) (D : Addr) : Gh := mkO o D .tmp
theorem b9Q {L vs : List Nat} {src : SI} {b : BT1} {tt : SB} {elt : SE} {wi : TI} {g : TG} {tT : TT} {tE : TE} {scope : Scope} (hi : IR d3 G W wi src) (hg : GR G.K L g b) (hL : ∀ j ∈ L, j ∈ vs)
  (ht : TR (G.blk scope) (fun _ _ _ _ => False) tT tt) (he : ER (G.blk scope) (fun _ _ _ _ => False) tE elt) : ER G W (tLc wi g tT tE vs) (cLc src b tt elt vs) := by
 intro σ H ρ S o c Q nt rs ps
 refine hi σ H ρ S o c _ nt rs ?_
 unfold cLc at ps
 cases e : src ρ S with
 | bad => rw [e] at ps; exact ps.elim
 | exc e' S' => rw [e] at ps; exact ps
 | ok ds S1 =>
  rw [e] at ps
  intro J o1 c1 H1 s1 nt1 rs1 it D hD
  have ps1 : PostE G W o1 c1 ρ σ H1 (R.l (lcM b tt elt (t6 ρ vs) ds S1) fun xs S2 => .ok (.own xs) S2) Q := PostE.step s1 ps
  refine ⟨fun i m H => m = ds.length - i ∧ i ≤ ds.length ∧ ∃ S o c acc ys, Step d3 o1 c1 H1 o c H ∧ NT o ∧ o D = some .prot ∧ CS G.K o c S H ∧ H D = some (.lst acc) ∧ RepAll G.K o H acc ys ∧ acc.length ≤ i ∧
   PostE G W o1 c1 ρ σ H1 (R.l (lcM b tt elt (t6 ρ vs) (ds.drop i) S) fun xs S2 => .ok (.own (ys ++ xs)) S2) Q,
   ⟨ds.length, by simp, Nat.zero_le _, S1, mkO o1 D .prot, c1, [], [], Step.laidO rs1.cs.trk hD, ?_, u9, rs1.cs.laidO hD trivial, upd_same, .nil, Nat.le_refl _, by rw [List.drop_zero]; exact ps1⟩, ?_⟩
  ·intro a z
   by_cases q : a = D
   ·subst q; rw [u9] at z; cases z
   ·rw [B8 q] at z; exact nt1 a z
  rintro i m H2 ⟨rfl, hi2, S2, o2, c2, acc, ys, s2, nt2, hp2, cs2, hD2, ra2, la2, p2⟩
  obtain ⟨stop, go⟩ := it.2 o2 c2 H2 s2 cs2.trk i
  by_cases hlt : i < ds.length
  ·obtain ⟨gg1, gg2⟩ := go ds[i] (List.getElem?_eq_getElem hlt)
   rw [List.drop_eq_getElem_cons hlt] at p2
   refine .inr ⟨gg1, fun H => ∃ S o c acc ys, Step d3 o1 c1 H1 o c H ∧ NT o ∧ o D = some .prot ∧ CS G.K o c S H ∧ H D = some (.lst acc) ∧ RepAll G.K o H acc ys ∧ acc.length ≤ i + 1 ∧
    PostE G W o1 c1 ρ σ H1 (R.l (lcM b tt elt (t6 ρ vs) (ds.drop (i + 1)) S) fun xs S2 => .ok (.own (ys ++ xs)) S2) Q, fun H' q => ⟨ds.length - (i + 1), by omega, rfl, hlt, q⟩, fun x H3 y => ?_⟩
   obtain ⟨gr, rx⟩ := gg2 x H3 y
   have cs3 := a6W cs2 gr
   have s3 : Step d3 o2 c2 H2 o2 c2 H3 := O0 gr
   -- the block's names
   have rsw : RS G.K o2 c2 (t6 ρ vs) S2 (L2.wipe σ vs) H3 := ((rs1.step (s2.trans s3) cs3)).wipe vs
   unfold lcM at p2
   cases eb : b ds[i] (t6 ρ vs) with
   | none => rw [eb] at p2; exact p2.elim
   | some ρ4 =>
    rw [eb] at p2
    refine hg (L2.wipe σ vs) H3 (t6 ρ vs) ρ4 S2 o2 c2 x ds[i] _ nt2 rsw rx eb fun σ4 rs4 f4 l4 => ?_
    refine ⟨b1t hL l4 f4, ?_⟩
    refine ht σ4 H3 ρ4 S2 o2 c2 _ nt2 rs4 ?_
    have hD3 : H3 D = some (.lst acc) := gr _ _ hD2
    have np : ∀ w, o2 D = some w → ¬ d3 w := fun w hw => by rw [hp2] at hw; cases hw; exact fun z => z
    cases et : tt ρ4 S2 with
    | bad => simp only [et] at p2; exact p2.elim
    | exc e' S' => simp only [et] at p2; exact p2.elim
    | ok bb S3 =>
     simp only [et] at p2
     intro o5 c5 H5 s5 nt5 rs5
     have hp5 : o5 D = some .prot := s5.own D _ hp2 (fun z => z)
     have hD5 : H5 D = some (.lst acc) := s5.keep D _ hD3 np
     have sa : Step d3 o1 c1 H1 o5 c5 H5 := (s2.trans s3).trans s5
     have ra5 : RepAll G.K o5 H5 acc ys := (ra2.step cs2.trk s3).step cs3.trk s5
     cases bb with
     | false =>
      rw [if_neg Bool.false_ne_true]
      exact ⟨S3, o5, c5, acc, ys, sa, nt5, hp5, rs5.cs, hD5, ra5, Nat.le_succ_of_le la2, p2⟩
     | true =>
      rw [if_pos rfl]
      refine he σ4 H5 ρ4 S3 o5 c5 _ nt5 rs5 ?_
      cases ee : elt ρ4 S3 with
      | bad => simp only [ee] at p2; exact p2.elim
      | exc e' S' => simp only [ee] at p2; exact p2.elim
      | ok t S4 =>
       simp only [ee] at p2
       intro v o6 c6 H6 s6 rs6 r6
       cases ea : asD t with
       | none => simp only [ea] at p2; exact p2.elim
       | some xd =>
        simp only [ea] at p2
        have np5 : ∀ w, o5 D = some w → ¬ d3 w := fun w hw => by rw [hp5] at hw; cases hw; exact fun z => z
        have s7 := s6.untmp nt5
        have hp7 : unT o6 D = some .prot := s7.own D _ hp5 (fun z => z)
        have hD7 : H6 D = some (.lst acc) := s7.keep D _ hD5 np5
        have cs7 := rs6.untmp.cs
        have ra7 := ra5.step rs5.cs.trk s7
        have rx7 : Rep G.K (unT o6) H6 v xd := r6.toD rs6.cs.trk ea
        have hlen : acc.length < sizeLine := Nat.lt_of_le_of_lt la2 (Nat.lt_of_lt_of_le hlt it.1)
        have kw : Kept (unT o6) H6 (unT o6) (upd H6 D (.lst (acc ++ [v]))) := m8 (by rw [hp7]; simp)
        refine ⟨acc, hD7, hlen, S4, unT o6, c6, acc ++ [v], ys ++ [xd], ⟨fun a u e n => ?_, (sa.trans s7).own, (sa.trans s7).new, (sa.trans s7).pre⟩, C2, hp7, b3v cs7 hp7 trivial, upd_same, ?_, ?_, ?_⟩
        ·rw [upd_ne (ne_of_none e hD)]
         exact (sa.trans s7).keep a u e n
        ·exact (ra7.kept cs7.trk kw).append (.cons _ _ _ _ (rx7.kept cs7.trk kw) .nil)
        ·rw [List.length_append]
         exact Nat.succ_le_succ la2
        ·cases el : lcM b tt elt (t6 ρ vs) (ds.drop (i + 1)) S4 with
         | bad => rw [el] at p2; exact p2
         | exc e' S' => rw [el] at p2; exact p2
         | ok xs S5 =>
          rw [el] at p2
          have p8 : PostE G W o1 c1 ρ σ H1 (.ok (.own (ys ++ (xd :: xs))) S5) Q := p2
          show PostE G W o1 c1 ρ σ H1 (.ok (.own ((ys ++ [xd]) ++ xs)) S5) Q
          rw [List.append_assoc]
          exact p8
  ·have ei : i = ds.length := by omega
   subst ei
   rw [List.drop_length] at p2
   refine .inl ⟨stop (Nat.le_refl _), ?_⟩
   have p3 : PostE G W o1 c1 ρ σ H1 (.ok (.own ys) S2) Q := by
    have : PostE G W o1 c1 ρ σ H1 (.ok (.own (ys ++ [])) S2) Q := p2
    rw [List.append_nil] at this
    exact this
   have n1 : o1 D = none := rs1.cs.trk.new hD
   have st : Step d3 o1 c1 H1 (N4 o2 D) c2 H2 := ⟨s2.keep, fun a w e n => by
     have : a ≠ D := fun z => by rw [z, n1] at e; cases e
     unfold N4
     rw [B8 this]
     exact s2.own a w e n, fun a e n => by
     by_cases z : a = D
     ·rw [z]; exact hD
     ·unfold N4 at n
      rw [B8 z] at n
      exact s2.new a e n, s2.pre⟩
   have sup : ∀ a, o2 a = none → N4 o2 D a = none := fun a e => by
    have : a ≠ D := fun z => by rw [z, hp2] at e; cases e
    unfold N4
    rw [B8 this]
    exact e
   have cst : CS G.K (N4 o2 D) c2 S2 H2 := cs2.turn sup (fun a n e => by
    have : a ≠ D := fun z => by rw [z, hp2] at e; cases e
    unfold N4
    rw [B8 this]
    exact e) fun a n e => n (sup a e)
   exact p3 (.ref D) (N4 o2 D) c2 H2 st (rs1.step st cst) ⟨D, acc, rfl, u9, hD2, Nat.le_trans la2 it.1, ra2.kept cs2.trk (Kept.same sup)⟩
theorem a3v {L : List Nat} {iter elt : Expr} {ifs : List Expr} {scope : Scope} {own : List (Str × Nat)} {src : SI} {b : BT1} {tt : SB} {fe : SE} (hi : IV d3 G tg iter src) (hg : GV (G.blk scope) tg L b) (ht : TVs (G.blk scope) ifs tt) (he : EV (G.blk scope) elt fe)
  (hcm : G.hot = none := by rfl) (hb : blkC G.N G.sc scope own = true := by (try dsimp only [Cc.blk]); decide +kernel) (hL : ∀ j ∈ L, j ∈ own.map (·.2) := by decide) (nd : G.N.Nodup := by (try dsimp only [Cc.blk]); decide +kernel) (hs : ∀ (env : PySem.Env) x, foldedSetIterable iter env x = pure x := by intro _ _; rfl) :
  EV G (.ListComp elt [⟨tg, iter, ifs, 0⟩] scope pos) (cLc src b tt fe (own.map (·.2))) := by
 obtain ⟨wi, pi, qi⟩ := hi
 obtain ⟨gg, pg, qg⟩ := hg
 obtain ⟨tT, pt, qt⟩ := ht
 obtain ⟨tE, pe, qe⟩ := he
 refine ⟨fun W => tLc (wi W) gg (tT fun _ _ _ _ => False) (tE fun _ _ _ _ => False) (own.map (·.2)), fun X W k => ?_, fun W => b9Q (qi W) qg hL (qt _) (qe _)⟩
 exact pe_lc (k.calm hcm) (k.nd nd) (pi X W k) (blkOk_by (by rw [k.N, k.sc]; exact hb)) (fun s H C cl fp => pg _ _ (k.blk hcm scope s H C cl fp)) (fun s H C cl fp => pt _ _ (k.blk hcm scope s H C cl fp)) (fun s H C cl fp => pe _ _ (k.blk hcm scope s H C cl fp)) (hs _)
theorem a8n (i : Nat) {x : Str} {py : Pos} {spos : Pos} {L : List Nat} {iter elt : Expr} {ifs : List Expr} {scope : Scope} {own : List (Str × Nat)} {src : SI} {b : BT1} {tt : SB} {fe : SE} (hi : IV d3 G tg iter src) (hg : GV (G.blk scope) tg L b) (ht : TVs (G.blk scope) ifs tt) (he : EV (G.blk scope) elt fe)
  (hN : G.N[i]? = some x := by rfl) (hx : G.sc.names.lookup x = some .local := by rfl) (hk : G.sc.kind = .function := by rfl) (hl : (py.line == pos.line) = true := by rfl)
  (ha : (scope.names.any fun (n, k) => n == x && (k == .local || k == .cell)) = false := by decide +kernel)
  (hcm : G.hot = none := by rfl) (hb : blkC G.N G.sc scope own = true := by (try dsimp only [Cc.blk]); decide +kernel) (hL : ∀ j ∈ L, j ∈ own.map (·.2) := by decide) (nd : G.N.Nodup := by (try dsimp only [Cc.blk]); decide +kernel) (hs : ∀ (env : PySem.Env) x, foldedSetIterable iter env x = pure x := by intro _ _; rfl) :
  SV G (.Assign [.Name x py] (.ListComp elt [⟨tg, iter, ifs, 0⟩] scope pos) spos) (u8 i (cLc src b tt fe (own.map (·.2)))) := by
 obtain ⟨wi, pi, qi⟩ := hi
 obtain ⟨gg, pg, qg⟩ := hg
 obtain ⟨tT, pt, qt⟩ := ht
 obtain ⟨tE, pe, qe⟩ := he
 refine ⟨fun W => tAsg (tLc (wi W) gg (tT fun _ _ _ _ => False) (tE fun _ _ _ _ => False) (own.map (·.2))) (gName i), fun X W k => ?_, fun W σ H ρ S o c D nt rs ps => ?_⟩
 ·exact ps_setLc (k.calm hcm) (k.nd nd) (k.at hN) (by rw [k.sc]; exact hx) (sw_true (by rw [k.sc]; exact hk) (by rw [k.sc]; exact hx) hl ha) (pi X W k) (blkOk_by (by rw [k.N, k.sc]; exact hb)) (fun s H C cl fp => pg _ _ (k.blk hcm scope s H C cl fp)) (fun s H C cl fp => pt _ _ (k.blk hcm scope s H C cl fp)) (fun s H C cl fp => pe _ _ (k.blk hcm scope s H C cl fp)) (hs _)
 ·exact (b9Q (qi W) qg hL (qt _) (qe _)).s nt rs ps fun t S1 v o1 c1 H1 s1 rs1 r1 p1 => p1 _ (reT i o1) c1 H1 Step.refl.re b5i (rs1.put r1)
end
end BV
namespace BV
open PySem L2

def j8 (lo : Int) (n : Nat) : List D := (List.range n).map fun (k : Nat) => .int (lo + (k : Int))
def N6 : List D → Option (List D)
 | [.int j] => if j.toNat ≤ sizeLine ∧ B0 j = true then some (j8 0 j.toNat) else none
 | _ => none
def a3p : List D → Option (List D)
 | [.int i, .int j] => if (j - i).toNat ≤ sizeLine ∧ B0 i = true ∧ B0 j = true then some (j8 i (j - i).toNat) else none
 | _ => none
def b2H : List D → Option (List D)
 | [.int i, .int j, .int c] => if c = -1 ∧ (i - j).toNat ≤ sizeLine ∧ B0 i = true ∧ B0 j = true then some ((List.range (i - j).toNat).map fun (k : Nat) => .int (i - (k : Int))) else none
 | _ => none
def a1H (g : List D → Option (List D)) (fs : SU) : SI := fun ρ S => R.l (fs ρ S) fun ds S1 => match g ds with | some xs => .ok xs S1 | none => .bad
theorem c4y {j : Int} (h : j.toNat ≤ sizeLine) : j < 2 ^ 62 := by
 rw [sizeLine_eq] at h
 omega
theorem a7S {vol : Ow → Prop} {K : PySem.W.Frag} {o : Gh} {c : Cs} {H : Hp} {lo : Int} {n : Nat} (hn : n ≤ sizeLine) : b4L vol K (Itr lo n) o c H (j8 lo n) := by
 have hl : (j8 lo n).length = n := by unfold j8; rw [List.length_map, List.length_range]
 refine ⟨by rw [hl]; exact hn, fun o1 c1 H1 s tr i => ⟨fun h => by rw [hl] at h; exact h, fun d e => ?_⟩⟩
 have hi : i < n := by
  have := (List.getElem?_eq_some_iff.mp e).1
  rw [hl] at this
  exact this
 have ed : d = .int (lo + (i : Int)) := by
  unfold j8 at e
  rw [List.getElem?_map, List.getElem?_range hi] at e
  simpa using e.symm
 subst ed
 refine ⟨hi, fun x H2 y => ?_⟩
 obtain ⟨e1, e2⟩ := y
 subst e1 e2
 exact ⟨fun _ _ q => q, .int _⟩
theorem b2i {vol : Ow → Prop} {K : PySem.W.Frag} {o : Gh} {c : Cs} {H : Hp} {lo : Int} {n : Nat} (hn : n ≤ sizeLine) : b4L vol K (Itc lo (-1) n) o c H ((List.range n).map fun (k : Nat) => .int (lo - (k : Int))) := by
 have hl : ((List.range n).map fun (k : Nat) => (PyData.int (lo - (k : Int)))).length = n := by rw [List.length_map, List.length_range]
 refine ⟨by rw [hl]; exact hn, fun o1 c1 H1 s tr i => ⟨fun h => by rw [hl] at h; exact h, fun d e => ?_⟩⟩
 have hi : i < n := by
  have := (List.getElem?_eq_some_iff.mp e).1
  rw [hl] at this
  exact this
 have ed : d = .int (lo - (i : Int)) := by
  rw [List.getElem?_map, List.getElem?_range hi] at e
  simpa using e.symm
 subst ed
 refine ⟨hi, fun x H2 y => ?_⟩
 obtain ⟨e1, e2⟩ := y
 subst e1
 refine ⟨fun _ _ q => q, ?_⟩
 rw [e2, show lo + (i : Int) * (-1) = lo - (i : Int) by omega]
 exact .int _
section
variable {G : Cc} {W : WX} {o o1 : Gh} {c c1 : Cs} {ρ : En} {σ : L2.St} {H H1 : Hp} {pos p : Pos} {a b e tg e1 e2 e3 : Expr} {f f1 f2 f3 : SE} {vol : Ow → Prop} {fs : SU} {Dn : Ends}
theorem UAR.i {t : TA} {k : List BV.D → Option (List BV.D)} {S : Sto} {Q : It → Hp → Prop} {QQ : List V → Hp → Prop} (h : UAR G W t fs) (nt : NT o) (rs : RS G.K o c ρ S σ H) (ps : b7r vol G W o c ρ σ H (R.l (fs ρ S) fun ds S1 => match k ds with | some xs => .ok xs S1 | none => .bad) Q)
  (q : ∀ ds xs S1 vs o1 c1 H1, Step d3 o c H o1 c1 H1 → NT o1 → RS G.K o1 c1 ρ S1 σ H1 → RepUs G.K o1 H1 vs ds → k ds = some xs → b7r vol G W o1 c1 ρ σ H1 (.ok xs S1) Q → QQ vs H1) : t σ H QQ := by
 refine h σ H ρ S o c QQ nt rs ?_
 cases e : fs ρ S with
 | bad => rw [e] at ps; exact ps.elim
 | exc e' S' => rw [e] at ps; exact ps
 | ok ds S1 =>
  rw [e] at ps
  intro vs o1 c1 H1 s1 nt1 rs1 r1
  cases ek : k ds with
  | none => simp only [R.l_ok, ek] at ps; exact ps.elim
  | some xs =>
   simp only [R.l_ok, ek] at ps
   exact q ds xs S1 vs o1 c1 H1 s1 nt1 rs1 r1 ek fun J o' c' H' s => ps J o' c' H' (s1.trans s)
theorem C3 (ha : UAV G [e1] fs) (hm : G.mg "range" = none) (hg : G.sc.names.lookup ("range" : Str) = some .globalImplicit := by rfl) (hs : ∀ env : PySem.Env, starEach [e1] env = [(false, eval e1 env)] := by intro _; rfl) : IV vol G tg (.Call (.Name "range" p) [e1] [] pos) (a1H N6 fs) := by
 obtain ⟨t, pp, q⟩ := ha
 refine ⟨fun W => iRng1 (t W), fun X W k => pi_range1 (k.gl hg) (k.m hm) (pp X W k) (hs _), fun W σ H ρ S o c Q nt rs ps => ?_⟩
 refine (q W).i nt rs ps fun ds xs S1 vs o1 c1 H1 s1 nt1 rs1 r1 ek p1 => ?_
 unfold N6 at ek
 split at ek
 ·split at ek
  ·cases ek
   rename_i hh
   obtain ⟨v, rfl, r⟩ := r1.one
   rw [r.intV]
   exact ⟨_, rfl, O1 hh.2, c4y hh.1, p1 _ o1 c1 H1 Step.refl nt1 rs1 (a7S hh.1)⟩
  ·cases ek
 ·cases ek
theorem a0H (ha : UAV G [e1, e2] fs) (hm : G.mg "range" = none) (hg : G.sc.names.lookup ("range" : Str) = some .globalImplicit := by rfl) (hs : ∀ env : PySem.Env, starEach [e1, e2] env = [(false, eval e1 env), (false, eval e2 env)] := by intro _; rfl)
  (hs2 : ∀ env : PySem.Env, starEach [e2] env = [(false, eval e2 env)] := by intro _; rfl) : IV vol G tg (.Call (.Name "range" p) [e1, e2] [] pos) (a1H a3p fs) := by
 obtain ⟨t, pp, q⟩ := ha
 refine ⟨fun W => iRng2 (t W), fun X W k => pi_range2 (k.gl hg) (k.m hm) (pp X W k) (hs _) (hs2 _), fun W σ H ρ S o c Q nt rs ps => ?_⟩
 refine (q W).i nt rs ps fun ds xs S1 vs o1 c1 H1 s1 nt1 rs1 r1 ek p1 => ?_
 unfold a3p at ek
 split at ek
 ·split at ek
  ·cases ek
   rename_i hh
   obtain ⟨v, w, rfl, r, r'⟩ := r1.two
   rw [r.intV, r'.intV]
   exact ⟨_, _, rfl, ⟨O1 hh.2.1, V7 hh.2.1, O1 hh.2.2, V7 hh.2.2⟩, p1 _ o1 c1 H1 Step.refl nt1 rs1 (a7S hh.1)⟩
  ·cases ek
 ·cases ek
theorem RepUs.three {K : PySem.W.Frag} {o : Gh} {H : Hp} {vs : List V} {d e f : BV.D} (r : RepUs K o H vs [d, e, f]) : ∃ v w u, vs = [v, w, u] ∧ RepU K o H v d ∧ RepU K o H w e ∧ RepU K o H u f := by
 obtain ⟨v, ws, e1, r1, r2⟩ := r.consV
 obtain ⟨w, u, e2, r3, r4⟩ := r2.two
 exact ⟨v, w, u, by rw [e1, e2], r1, r3, r4⟩
theorem b15 (ha : UAV G [e1, e2, e3] fs) (hm : G.mg "range" = none) (hg : G.sc.names.lookup ("range" : Str) = some .globalImplicit := by rfl) (hs : ∀ env : PySem.Env, starEach [e1, e2, e3] env = (false, eval e1 env) :: starEach [e2, e3] env := by intro _; rfl)
  (hpl : ∀ env : PySem.Env, (backTo pos (starEach [e2, e3] env)).any (·.1) = false := by intro _; rfl) : IV vol G tg (.Call (.Name "range" p) [e1, e2, e3] [] pos) (a1H b2H fs) := by
 obtain ⟨t, pp, q⟩ := ha
 refine ⟨fun W => iRng3 (t W), fun X W k => pi_range3 (k.gl hg) (k.m hm) (pp X W k) (hs _) (hpl _), fun W σ H ρ S o c Q nt rs ps => ?_⟩
 refine (q W).i nt rs ps fun ds xs S1 vs o1 c1 H1 s1 nt1 rs1 r1 ek p1 => ?_
 unfold b2H at ek
 split at ek
 ·split at ek
  ·cases ek
   rename_i hh
   obtain ⟨hc, hh⟩ := hh
   subst hc
   obtain ⟨v, w, u, rfl, r, r', r''⟩ := r1.three
   rw [r.intV, r'.intV, r''.intV]
   exact ⟨_, _, -1, _, rfl, RgC.neg (O1 hh.2.1) (V7 hh.2.1) (O1 hh.2.2) (V7 hh.2.2), p1 _ o1 c1 H1 Step.refl nt1 rs1 (b2i hh.1)⟩
  ·cases ek
 ·cases ek

theorem b3P {K : PySem.W.Frag} {o : Gh} {c : Cs} {S : Sto} {H : Hp} {a : Addr} {u : HO} {i : Nat} (q : CS K o c S H) (h : o a = some (.slot i)) (ou : E5 u) : CS K o c S (upd H a u) :=
 q.move (m8 (by rw [h]; simp)) (fun b n e => ⟨e, fun x hx => by rw [upd_ne (fun z => by rw [z, h] at e; cases e)]; exact hx⟩) fun b n => by
  by_cases z : b = a
  ·subst z; exact ⟨u, upd_same, ou⟩
  ·obtain ⟨x, e, q⟩ := q.trk b n
   exact ⟨x, by rw [upd_ne z]; exact e, q⟩
theorem Y6 {o : Gh} {c : Cs} {H : Hp} {a : Addr} {u : HO} {i : Nat} (h : o a = some (.slot i)) : Step B4 o c H o c (upd H a u) :=
 ⟨fun b x e n => by rw [upd_ne (fun z => n (.slot i) (by rw [z]; exact h) trivial)]; exact e, fun _ _ e _ => e, fun _ e n => absurd e n, List.prefix_refl c⟩
theorem RepT.write {K : PySem.W.Frag} {u : HO} {a : Addr} {i : Nat} {w : Ow} {v : V} {t : T} (tr : Trk o H) (h : o a = some (.slot i)) (hw : w ≠ .slot i) (r : RepT K o c H w v t) : RepT K o c (upd H a u) w v t := by
 have k : Kept o H o (upd H a u) := m8 (by rw [h]; simp)
 have ne : ∀ b, o b = some w → b ≠ a := fun b e z => by rw [z, h] at e; cases e; exact hw rfl
 cases t with
 | val d => exact Rep.kept tr k r
 | own xs =>
  obtain ⟨x, vs, e, q, h', z, ra⟩ := r
  exact ⟨x, vs, e, q, by rw [upd_ne (ne _ q)]; exact h', z, ra.kept tr k⟩
 | own2 xss =>
  obtain ⟨x, as, e, q, h', nd, z, le, f⟩ := r
  refine ⟨x, as, e, q, by rw [upd_ne (ne _ q)]; exact h', nd, z, le, fun i b xs e1 e2 => ?_⟩
  obtain ⟨q', vs, h'', z', ra⟩ := f i b xs e1 e2
  exact ⟨q', vs, by rw [upd_ne (ne _ q')]; exact h'', z', ra.kept tr k⟩
 | ownd tk kvs =>
  obtain ⟨x, ks, vs, ds, e, q, h', z, z2, ra, e'⟩ := r
  exact ⟨x, ks, vs, ds, e, q, h'.kept (fun u hu => by rw [upd_ne (ne _ q)]; exact hu) (fun b us zz => SqT.kept tr k zz), z, z2, ra.kept tr k, e'⟩
 | cel n => exact r
 | scr ns =>
  obtain ⟨x, e, z, h'⟩ := r
  refine ⟨x, e, z, ?_⟩
  rcases h' with ⟨ob, h'⟩ | ⟨h', n⟩ | h'
  ·exact .inl ⟨ob, by rw [upd_ne (fun z => by rw [z] at h'; have := tr.free h' (fun z => z); rw [h] at this; cases this)]; exact h'⟩
  ·exact .inr (.inl ⟨by rw [upd_ne (fun z => by rw [z, h] at n; cases n)]; exact h', n⟩)
  ·exact .inr (.inr h')
 | exn _ _ _ _ => exact ⟨r.1, r.2.1, r.2.2.kept tr k⟩
 | tree d =>
  obtain ⟨as, r, nd⟩ := r
  exact ⟨as, r.move (fun x u e q => ⟨by rw [upd_ne (ne _ q)]; exact e, q⟩) (fun b us z => SqT.kept tr k z), nd⟩
 | rof b u =>
  obtain ⟨x, fv, e, q, h1, h2, h3⟩ := r
  have np : ∀ b, o b = some .seen → b ≠ a := fun b e z => by rw [z, h] at e; cases e
  exact ⟨x, fv, e, q, h1.moved fun x hx => by rw [upd_ne (np _ q)]; exact hx, h2, h3.movedH tr k fun b e => ⟨e, fun x hx => by rw [upd_ne (np _ e)]; exact hx⟩⟩
 | recs b ns => exact RcsR.move (fun x u e q => ⟨by rw [upd_ne (ne _ q)]; exact e, q⟩) k (fun _ _ e => e) r
theorem RS.change {K : PySem.W.Frag} {S : Sto} {u : HO} {a : Addr} {i : Nat} {t : T} {v : V} (rs : RS K o c ρ S σ H) (h : o a = some (.slot i)) (ou : E5 u) (hv : σ[i]? = some (some v)) (r : RepT K o c (upd H a u) (.slot i) v t) :
  RS K o c (ρ.set i (some t)) S σ (upd H a u) :=
 ⟨by rw [List.length_set]; exact rs.len, fun j t' e => by
  by_cases q : j = i
  ·subst q
   have hl : j < ρ.length := by rw [rs.len]; exact (List.getElem?_eq_some_iff.mp hv).1
   rw [List.getElem?_set_self hl] at e
   simp only [Option.some.injEq] at e
   subst e
   exact ⟨v, hv, r⟩
  ·rw [List.getElem?_set_ne (Ne.symm q)] at e
   obtain ⟨v', e1, r'⟩ := rs.slot j t' e
   exact ⟨v', e1, r'.write rs.cs.trk h (fun z => q (by cases z; rfl))⟩, b3P rs.cs h ou⟩
theorem RS.ownAt {K : PySem.W.Frag} {S : Sto} {i : Nat} {xs : List BV.D} (rs : RS K o c ρ S σ H) (e : ρ[i]? = some (some (.own xs))) : ∃ a vs, σ[i]? = some (some (.ref a)) ∧ o a = some (.slot i) ∧ H a = some (.lst vs) ∧ vs.length ≤ sizeLine ∧ RepAll K o H vs xs := by
 obtain ⟨v, e1, a, vs, rfl, h1, h2, h3, h4⟩ := rs.slot i _ e
 exact ⟨a, vs, e1, h1, h2, h3, h4⟩
theorem RS.relist {K : PySem.W.Frag} {S : Sto} {a : Addr} {i : Nat} {vs : List V} {xs : List BV.D} (rs : RS K o c ρ S σ H) (h : o a = some (.slot i)) (hv : σ[i]? = some (some (.ref a))) (z : vs.length ≤ sizeLine) (r : RepAll K o H vs xs) :
  RS K o c (ρ.set i (some (.own xs))) S σ (upd H a (.lst vs)) :=
 rs.change h trivial hv ⟨a, vs, rfl, h, upd_same, z, r.kept rs.cs.trk (m8 (by rw [h]; simp))⟩
def sA {α : Type} (f : En → Sto → R α) (k : α → En → Sto → Fl) : SS := fun ρ S => match f ρ S with
 | .ok t S1 => k t ρ S1
 | .exc e S1 => .ex e ρ S1
 | .bad => .bad
theorem AR.s {t : TA} {fa : SA} {k : List T → En → Sto → Fl} {S : Sto} {Q : List V → Hp → Prop} (h : AR G W t fa) (nt : NT o) (rs : RS G.K o c ρ S σ H) (p : PostS G W o c H (sA fa k ρ S) Dn)
  (q : ∀ ts S1 vs o1 c1 H1, Step d3 o c H o1 c1 H1 → NT o1 → RS G.K o1 c1 ρ S1 σ H1 → RepTs G.K o1 c1 H1 vs ts → PostS G W o1 c1 H1 (k ts ρ S1) Dn → Q vs H1) : t σ H Q := by
 refine h σ H ρ S o c Q nt rs ?_
 unfold sA at p
 cases e : fa ρ S with
 | ok t S1 => rw [e] at p; exact fun v o' c' H' s nt' rs' r' => q t S1 v o' c' H' s nt' rs' r' (PostS.step s.weak p)
 | exc e S1 => rw [e] at p; exact fun cls d o' c' H' s rs' nt' x => p cls d σ o' c' H' s.weak nt' rs' x
 | bad => rw [e] at p; exact p
theorem UAR.s {Dn : Ends} {t : TA} {k : List BV.D → En → Sto → Fl} {S : Sto} {Q : List V → Hp → Prop} (h : UAR G W t fs) (nt : NT o) (rs : RS G.K o c ρ S σ H) (p : PostS G W o c H (sA fs k ρ S) Dn)
  (q : ∀ ds S1 vs o1 c1 H1, Step d3 o c H o1 c1 H1 → NT o1 → RS G.K o1 c1 ρ S1 σ H1 → RepUs G.K o1 H1 vs ds → PostS G W o1 c1 H1 (k ds ρ S1) Dn → Q vs H1) : t σ H Q := by
 refine h σ H ρ S o c Q nt rs ?_
 unfold sA at p
 cases e : fs ρ S with
 | ok t S1 => rw [e] at p; exact fun v o' c' H' s nt' rs' r' => q t S1 v o' c' H' s nt' rs' r' (PostS.step s.weak p)
 | exc e S1 => rw [e] at p; exact fun cls d o' c' H' s rs' nt' x => p cls d σ o' c' H' s.weak nt' rs' x
 | bad => rw [e] at p; exact p

end
end BV
namespace BV
open PySem L2

def c0t (K : PySem.W.Frag) (r : V → List V → Hp → VK → Prop) (m : List D → List D → Option (List D × D)) : Prop := ∀ (o : Gh) (H : Hp) (a : Addr) (vs : List V) (xs : List D) (us : List V) (ds xs' : List D) (d : D) (Q : VK),
 H a = some (.lst vs) → vs.length ≤ sizeLine → RepAll K o H vs xs → RepAll K o H us ds → m xs ds = some (xs', d) → (∀ v vs', RepAll K o H vs' xs' → vs'.length ≤ sizeLine → Rep K o H v d → Q v (upd H a (.lst vs'))) → r (.ref a) us H Q
def b6G (K : PySem.W.Frag) (r : V → List V → Hp → VK → Prop) (m : List D → List D → Option (List D × D)) : Prop := ∀ (o : Gh) (H : Hp) (a : Addr) (vs : List V) (xs : List D) (us : List V) (ds xs' : List D) (d : D) (Q : VK),
 H a = some (.lst vs) → vs.length ≤ sizeLine → RepAll K o H vs xs → RepUs K o H us ds → m xs ds = some (xs', d) → (∀ v vs', RepAll K o H vs' xs' → vs'.length ≤ sizeLine → Rep K o H v d → Q v (upd H a (.lst vs'))) → r (.ref a) us H Q
structure LM (G : Cc) (x : Str) (m : List D → List D → Option (List D × D)) : Prop where
 ex : ∃ (id : String) (r : V → List V → Hp → VK → Prop), Slot "list" x id ∧ typeOf (.builtin id) = pure (.type "method_descriptor") ∧ (∀ X W, G.Ok X W → MtR X id r) ∧ c0t G.K r m
structure LMU (G : Cc) (x : Str) (m : List D → List D → Option (List D × D)) : Prop where
 ex : ∃ (id : String) (r : V → List V → Hp → VK → Prop), Slot "list" x id ∧ typeOf (.builtin id) = pure (.type "method_descriptor") ∧ (∀ X W, G.Ok X W → MtR X id r) ∧ b6G G.K r m
theorem RepAll.oneV {K : PySem.W.Frag} {o : Gh} {H : Hp} {us : List V} {d : D} (r : RepAll K o H us [d]) : ∃ v, us = [v] ∧ Rep K o H v d := by
 cases r with
 | cons v _ ws _ h1 h2 => cases h2; exact ⟨v, rfl, h1⟩
theorem RepAll.nilV {K : PySem.W.Frag} {o : Gh} {H : Hp} {us : List V} (r : RepAll K o H us []) : us = [] := by cases r; rfl
def w5 : List D → List D → Option (List D × D)
 | xs, [d] => if xs.length < sizeLine then some (xs ++ [d], .none) else none
 | _, _ => none
def B6 : List D → List D → Option (List D × D)
 | xs, [.list ys] => if xs.length + ys.length ≤ sizeLine then some (xs ++ ys, .none) else none
 | _, _ => none
def a9w : List D → List D → Option (List D × D)
 | _, [] => some ([], .none)
 | _, _ => none
section
variable {G : Cc}
theorem K3 : LM G "append" w5 := ⟨"list.append", rAppend, PySem.F.slot_list_append, PySem.F.type_list_append, fun X W k => mt_append, by
 intro o H a vs xs us ds xs' d Q h z r ra e q
 unfold w5 at e
 split at e
 ·split at e
  ·cases e
   rename_i hl
   obtain ⟨v, rfl, rv⟩ := ra.oneV
   rw [← r.length] at hl
   exact ⟨a, vs, v, rfl, rfl, h, hl, q .non _ (r.append (.cons _ _ _ _ rv .nil)) (by rw [List.length_append]; exact hl) .non⟩
  ·cases e
 ·cases e⟩
theorem J0 : LMU G "extend" B6 := ⟨"list.extend", rExtend, PySem.F.slot_list_extend, PySem.F.type_list_extend, fun X W k => mt_extend, by
 intro o H a vs xs us ds xs' d Q h z r ra e q
 unfold B6 at e
 split at e
 ·split at e
  ·cases e
   rename_i hl
   obtain ⟨v, rfl, rv⟩ := ra.one
   obtain ⟨b, ws, rfl, hb, _, zb, rb⟩ := rv.lstV
   rw [← r.length, ← rb.length] at hl
   exact ⟨a, b, vs, ws, rfl, rfl, h, hb, hl, q .non _ (r.append rb) (by rw [List.length_append]; exact hl) .non⟩
  ·cases e
 ·cases e⟩
theorem b4N : LM G "clear" a9w := ⟨"list.clear", rClear, PySem.F.slot_list_clear, PySem.F.type_list_clear, fun X W k => mt_clear, by
 intro o H a vs xs us ds xs' d Q h z r ra e q
 unfold a9w at e
 split at e
 ·cases e
  cases ra.nilV
  exact ⟨a, vs, rfl, rfl, h, q .non _ .nil (Nat.zero_le _) .non⟩
 ·cases e⟩
end

section
variable {G : Cc} {W : WX} {o o1 : Gh} {c c1 : Cs} {ρ : En} {σ : L2.St} {H H1 : Hp} {pos p : Pos} {a b e : Expr} {es : List Expr} {f f1 f2 f3 : SE} {fs : SA} {fu : SU} {Dn : Ends} {m : List BV.D → List BV.D → Option (List BV.D × BV.D)}
theorem a0u {K : PySem.W.Frag} {S : Sto} {a : Addr} {i : Nat} {xs xs' : List BV.D} {vs' : List V} {d : BV.D} {v : V} (rs : RS K o c ρ S σ H) (h1 : o a = some (.slot i)) (es : σ[i]? = some (some (.ref a))) (r : RepAll K o H vs' xs') (z : vs'.length ≤ sizeLine) :
  Step B4 o c H o c (upd H a (.lst vs')) ∧ RS K o c (ρ.set i (some (.own xs'))) S σ (upd H a (.lst vs')) := ⟨Y6 h1, rs.relist h1 es z r⟩
theorem b5o {K : PySem.W.Frag} {r : V → List V → Hp → VK → Prop} {S : Sto} {i : Nat} {xs xs' ds : List BV.D} {us : List V} {d : BV.D} {v : V} {Q : VK} (hm : c0t K r m) (rs : RS K o c ρ S σ H) (e : ρ[i]? = some (some (.own xs))) (ev : σ[i]? = some (some v)) (ra : RepAll K o H us ds) (em : m xs ds = some (xs', d))
  (q : ∀ v' H2, Step B4 o c H o c H2 → RS K o c (ρ.set i (some (.own xs'))) S σ H2 → Rep K o H2 v' d → Q v' H2) : r v us H Q := by
 obtain ⟨a, vs, es, h1, h2, h3, h4⟩ := rs.ownAt e
 rw [ev] at es
 cases es
 refine hm o H a vs xs us ds xs' d Q h2 h3 h4 ra em fun v' vs' r' z rv => ?_
 obtain ⟨s, rs2⟩ := a0u (d := d) (v := v') (xs := xs) rs h1 ev r' z
 exact q v' _ s rs2 (rv.kept rs.cs.trk (m8 (by rw [h1]; simp)))
theorem b50 {K : PySem.W.Frag} {r : V → List V → Hp → VK → Prop} {S : Sto} {i : Nat} {xs xs' ds : List BV.D} {us : List V} {d : BV.D} {v : V} {Q : VK} (hm : b6G K r m) (rs : RS K o c ρ S σ H) (e : ρ[i]? = some (some (.own xs))) (ev : σ[i]? = some (some v)) (ra : RepUs K o H us ds) (em : m xs ds = some (xs', d))
  (q : ∀ v' H2, Step B4 o c H o c H2 → RS K o c (ρ.set i (some (.own xs'))) S σ H2 → Rep K o H2 v' d → Q v' H2) : r v us H Q := by
 obtain ⟨a, vs, es, h1, h2, h3, h4⟩ := rs.ownAt e
 rw [ev] at es
 cases es
 refine hm o H a vs xs us ds xs' d Q h2 h3 h4 ra em fun v' vs' r' z rv => ?_
 obtain ⟨s, rs2⟩ := a0u (d := d) (v := v') (xs := xs) rs h1 ev r' z
 exact q v' _ s rs2 (rv.kept rs.cs.trk (m8 (by rw [h1]; simp)))
theorem b2S {K : PySem.W.Frag} {S : Sto} {i : Nat} {xs : List BV.D} {v : V} (rs : RS K o c ρ S σ H) (e : ρ[i]? = some (some (.own xs))) (ev : σ[i]? = some (some v)) : tyV K "list" v H := by
 obtain ⟨a, vs, es, h1, h2, h3, h4⟩ := rs.ownAt e
 rw [ev] at es
 cases es
 exact .inl ⟨rfl, vs, .of h2⟩
def sLM (i : Nat) (m : List BV.D → List BV.D → Option (List BV.D × BV.D)) (fs : SA) (k : BV.D → En → Sto → Fl) : SS := fun ρ S => match ρ[i]? with
 | some (some (.own xs)) => sA fs (fun ts ρ S => match a16 ts with
  | some ds => (match m xs ds with | some (xs', d) => k d (ρ.set i (some (.own xs'))) S | none => .bad)
  | none => .bad) ρ S
 | _ => .bad
def b5O (i : Nat) (m : List BV.D → List BV.D → Option (List BV.D × BV.D)) (fs : SU) (k : BV.D → En → Sto → Fl) : SS := fun ρ S => match ρ[i]? with
 | some (some (.own xs)) => sA fs (fun ds ρ S => match m xs ds with | some (xs', d) => k d (ρ.set i (some (.own xs'))) S | none => .bad) ρ S
 | _ => .bad
theorem c1F {t : TA} {r : V → List V → Hp → VK → Prop} {k : BV.D → En → Sto → Fl} {S : Sto} {Q : VK} {i : Nat} (hm : c0t G.K r m) (ha : AR G W t fs) (nt : NT o) (rs : RS G.K o c ρ S σ H) (p : PostS G W o c H (sLM i m fs k ρ S) Dn)
  (q : ∀ v d ρ' S' o' c' H', Step B4 o c H o' c' H' → NT o' → RS G.K o' c' ρ' S' σ H' → Rep G.K o' H' v d → PostS G W o' c' H' (k d ρ' S') Dn → Q v H') : tBM G.K "list" r (tVar i) t σ H Q := by
 unfold sLM at p
 split at p
 ·rename_i xs e
  obtain ⟨a, vs, ev, h1, h2, h3, h4⟩ := rs.ownAt e
  refine ⟨_, ev, b2S rs e ev, ?_⟩
  refine ha.s nt rs p fun ts S1 us o1 c1 H1 s1 nt1 rs1 r1 p1 => ?_
  cases e1 : a16 ts with
  | none => simp only [e1] at p1; exact p1.elim
  | some ds =>
   simp only [e1] at p1
   cases e2 : m xs ds with
   | none => simp only [e2] at p1; exact p1.elim
   | some x =>
    obtain ⟨xs', d⟩ := x
    simp only [e2] at p1
    refine b5o hm rs1 e ev (r1.all e1) e2 fun v' H2 s2 rs2 rv => ?_
    exact q v' d _ S1 o1 c1 H2 (s1.weak.trans s2) nt1 rs2 rv (PostS.step s2 p1)
 ·exact p.elim
theorem b9R {t : TA} {r : V → List V → Hp → VK → Prop} {k : BV.D → En → Sto → Fl} {S : Sto} {Q : VK} {i : Nat} (hm : b6G G.K r m) (ha : UAR G W t fu) (nt : NT o) (rs : RS G.K o c ρ S σ H) (p : PostS G W o c H (b5O i m fu k ρ S) Dn)
  (q : ∀ v d ρ' S' o' c' H', Step B4 o c H o' c' H' → NT o' → RS G.K o' c' ρ' S' σ H' → Rep G.K o' H' v d → PostS G W o' c' H' (k d ρ' S') Dn → Q v H') : tBM G.K "list" r (tVar i) t σ H Q := by
 unfold b5O at p
 split at p
 ·rename_i xs e
  obtain ⟨a, vs, ev, h1, h2, h3, h4⟩ := rs.ownAt e
  refine ⟨_, ev, b2S rs e ev, ?_⟩
  refine ha.s nt rs p fun ds S1 us o1 c1 H1 s1 nt1 rs1 r1 p1 => ?_
  cases e2 : m xs ds with
  | none => simp only [e2] at p1; exact p1.elim
  | some x =>
   obtain ⟨xs', d⟩ := x
   simp only [e2] at p1
   refine b50 hm rs1 e ev r1 e2 fun v' H2 s2 rs2 rv => ?_
   exact q v' d _ S1 o1 c1 H2 (s1.weak.trans s2) nt1 rs2 rv (PostS.step s2 p1)
 ·exact p.elim
theorem b95 {r : V → List V → Hp → VK → Prop} {k : BV.D → En → Sto → Fl} {S : Sto} {Q : VK} {i : Nat} (hm : c0t G.K r m) (nt : NT o) (rs : RS G.K o c ρ S σ H) (p : PostS G W o c H (sLM i m l8 k ρ S) Dn)
  (q : ∀ v d ρ' S' o' c' H', Step B4 o c H o' c' H' → NT o' → RS G.K o' c' ρ' S' σ H' → Rep G.K o' H' v d → PostS G W o' c' H' (k d ρ' S') Dn → Q v H') : tBM0 G.K "list" r (tVar i) σ H Q := by
 unfold sLM at p
 split at p
 ·rename_i xs e
  obtain ⟨a, vs, ev, h1, h2, h3, h4⟩ := rs.ownAt e
  refine ⟨_, ev, b2S rs e ev, ?_⟩
  unfold sA l8 at p
  simp only [a16] at p
  cases e2 : m xs [] with
  | none => simp only [e2] at p; exact p.elim
  | some x =>
   obtain ⟨xs', d⟩ := x
   simp only [e2] at p
   refine b5o hm rs e ev .nil e2 fun v' H2 s2 rs2 rv => ?_
   exact q v' d _ S o c H2 s2 nt rs2 rv (PostS.step s2 p)
 ·exact p.elim
def W6 : BV.D → En → Sto → Fl := fun _ ρ S => .nx ρ S
theorem b99 (i : Nat) {x nm : Str} {id : String} {r : V → List V → Hp → VK → Prop} {xp ap cp : Pos} {X : Cx} {W : WX} {t : TA} (k : G.Ok X W) (sl : Slot "list" nm id) (ty : typeOf (.builtin id) = pure (.type "method_descriptor")) (hm : MtR X id r) (ha : PA X (e :: es) t)
  (hN : G.N[i]? = some x) (hv : Vis G.sc x) (hd : (x == ("__debug__" : Str)) = false) (hcd : (x == ("__classdict__" : Str)) = false)
  (hbase : ∀ env : PySem.Env, attributeBase (.Name x xp) nm env (eval (.Name x xp) env) = eval (.Name x xp) env)
  (hfew : ∀ env : PySem.Env, ((backTo cp (starEach (e :: es) env)).all (fun x => !x.1) && (backToKw cp (keywordEach [] env)).all (fun x => x.1.isSome) && decide ((e :: es).length + ([] : List Keyword).length + (if ([] : List Keyword).isEmpty then 0 else 1) < 30)) = true)
  (hline : (ap.endLine == cp.line) = true) (hs : ∀ env : PySem.Env, starEach (e :: es) env = (false, eval e env) :: starEach es env) (hpl : ∀ env : PySem.Env, (backTo cp (starEach es env)).any (·.1) = false) :
  PE X (.Call (.Attribute (.Name x xp) nm ap) (e :: es) [] cp) (tBM G.K "list" r (tVar i) t) := by
 have := pe_bm (X := X) PySem.F.plainAttrs_list sl ty hm (pe_var (pos := xp) (k.at hN) (k.vis hv) hd hcd) ha (hbase _) (hfew _) hline (hs _) (hpl _)
 rw [k.K] at this
 exact this
theorem b9W (i : Nat) {x nm : Str} {id : String} {r : V → List V → Hp → VK → Prop} {xp ap cp : Pos} {X : Cx} {W : WX} (k : G.Ok X W) (sl : Slot "list" nm id) (ty : typeOf (.builtin id) = pure (.type "method_descriptor")) (hm : MtR X id r)
  (hN : G.N[i]? = some x) (hv : Vis G.sc x) (hd : (x == ("__debug__" : Str)) = false) (hcd : (x == ("__classdict__" : Str)) = false)
  (hbase : ∀ env : PySem.Env, attributeBase (.Name x xp) nm env (eval (.Name x xp) env) = eval (.Name x xp) env) (hline : (ap.endLine == cp.line) = true) :
  PE X (.Call (.Attribute (.Name x xp) nm ap) [] [] cp) (tBM0 G.K "list" r (tVar i)) := by
 have := pe_bm0 (X := X) (cpos := cp) PySem.F.plainAttrs_list sl ty hm (pe_var (pos := xp) (k.at hN) (k.vis hv) hd hcd) (hbase _) hline
 rw [k.K] at this
 exact this
theorem b0N (i : Nat) {x nm : Str} {xp ap cp : Pos} (L : LM G nm m) (h : AV G (e :: es) fs) (hN : G.N[i]? = some x := by rfl) (hv : Vis G.sc x := by first | exact Or.inl rfl | exact Or.inr (Or.inl rfl) | exact Or.inr (Or.inr rfl)) (hd : (x == ("__debug__" : Str)) = false := by decide) (hcd : (x == ("__classdict__" : Str)) = false := by decide)
  (hbase : ∀ env : PySem.Env, attributeBase (.Name x xp) nm env (eval (.Name x xp) env) = eval (.Name x xp) env := by intro _; rfl)
  (hfew : ∀ env : PySem.Env, ((backTo cp (starEach (e :: es) env)).all (fun x => !x.1) && (backToKw cp (keywordEach [] env)).all (fun x => x.1.isSome) && decide ((e :: es).length + ([] : List Keyword).length + (if ([] : List Keyword).isEmpty then 0 else 1) < 30)) = true := by intro _; rfl)
  (hline : (ap.endLine == cp.line) = true := by rfl) (hs : ∀ env : PySem.Env, starEach (e :: es) env = (false, eval e env) :: starEach es env := by intro _; rfl) (hpl : ∀ env : PySem.Env, (backTo cp (starEach es env)).any (·.1) = false := by intro _; rfl)
  (hw : ∀ env : PySem.Env, swapsWith (.Call (.Attribute (.Name x xp) nm ap) (e :: es) [] cp) none pos.line env = pure false := by intro _; rfl) :
  SV G (.Expr (.Call (.Attribute (.Name x xp) nm ap) (e :: es) [] cp) pos) (sLM i m fs W6) := by
 obtain ⟨t, pp, q⟩ := h
 obtain ⟨id, r, sl, ty, hr, hm⟩ := L.ex
 exact ⟨fun W => tDrop (tBM G.K "list" r (tVar i) (t W)), fun X W k => ps_expr (b99 i k sl ty (hr X W k) (pp X W k) hN hv hd hcd hbase hfew hline hs hpl) (hw _), fun W σ H ρ S o c D nt rs ps =>
  c1F hm (q W) nt rs ps fun v d ρ' S' o' c' H' s nt' rs' rv p' => p' σ o' c' H' Step.refl nt' rs'⟩
theorem b2R (i : Nat) {x nm : Str} {xp ap cp : Pos} (L : LMU G nm m) (h : UAV G (e :: es) fu) (hN : G.N[i]? = some x := by rfl) (hv : Vis G.sc x := by first | exact Or.inl rfl | exact Or.inr (Or.inl rfl) | exact Or.inr (Or.inr rfl)) (hd : (x == ("__debug__" : Str)) = false := by decide) (hcd : (x == ("__classdict__" : Str)) = false := by decide)
  (hbase : ∀ env : PySem.Env, attributeBase (.Name x xp) nm env (eval (.Name x xp) env) = eval (.Name x xp) env := by intro _; rfl)
  (hfew : ∀ env : PySem.Env, ((backTo cp (starEach (e :: es) env)).all (fun x => !x.1) && (backToKw cp (keywordEach [] env)).all (fun x => x.1.isSome) && decide ((e :: es).length + ([] : List Keyword).length + (if ([] : List Keyword).isEmpty then 0 else 1) < 30)) = true := by intro _; rfl)
  (hline : (ap.endLine == cp.line) = true := by rfl) (hs : ∀ env : PySem.Env, starEach (e :: es) env = (false, eval e env) :: starEach es env := by intro _; rfl) (hpl : ∀ env : PySem.Env, (backTo cp (starEach es env)).any (·.1) = false := by intro _; rfl)
  (hw : ∀ env : PySem.Env, swapsWith (.Call (.Attribute (.Name x xp) nm ap) (e :: es) [] cp) none pos.line env = pure false := by intro _; rfl) :
  SV G (.Expr (.Call (.Attribute (.Name x xp) nm ap) (e :: es) [] cp) pos) (b5O i m fu W6) := by
 obtain ⟨t, pp, q⟩ := h
 obtain ⟨id, r, sl, ty, hr, hm⟩ := L.ex
 exact ⟨fun W => tDrop (tBM G.K "list" r (tVar i) (t W)), fun X W k => ps_expr (b99 i k sl ty (hr X W k) (pp X W k) hN hv hd hcd hbase hfew hline hs hpl) (hw _), fun W σ H ρ S o c D nt rs ps =>
  b9R hm (q W) nt rs ps fun v d ρ' S' o' c' H' s nt' rs' rv p' => p' σ o' c' H' Step.refl nt' rs'⟩
theorem b9d (i : Nat) {x nm : Str} {xp ap cp : Pos} (L : LM G nm m) (hN : G.N[i]? = some x := by rfl) (hv : Vis G.sc x := by first | exact Or.inl rfl | exact Or.inr (Or.inl rfl) | exact Or.inr (Or.inr rfl)) (hd : (x == ("__debug__" : Str)) = false := by decide) (hcd : (x == ("__classdict__" : Str)) = false := by decide)
  (hbase : ∀ env : PySem.Env, attributeBase (.Name x xp) nm env (eval (.Name x xp) env) = eval (.Name x xp) env := by intro _; rfl) (hline : (ap.endLine == cp.line) = true := by rfl)
  (hw : ∀ env : PySem.Env, swapsWith (.Call (.Attribute (.Name x xp) nm ap) [] [] cp) none pos.line env = pure false := by intro _; rfl) :
  SV G (.Expr (.Call (.Attribute (.Name x xp) nm ap) [] [] cp) pos) (sLM i m l8 W6) := by
 obtain ⟨id, r, sl, ty, hr, hm⟩ := L.ex
 exact ⟨fun W => tDrop (tBM0 G.K "list" r (tVar i)), fun X W k => ps_expr (b9W i k sl ty (hr X W k) hN hv hd hcd hbase hline) (hw _), fun W σ H ρ S o c D nt rs ps =>
  b95 hm nt rs ps fun v d ρ' S' o' c' H' s nt' rs' rv p' => p' σ o' c' H' Step.refl nt' rs'⟩
end
end BV
namespace BV
open PySem L2

mutual
def lf : D → Bool
 | .list _ => false
 | .tuple xs => lfs xs
 | .dict _ => false
 | .none => true
 | .bool _ => true
 | .int _ => true
 | .str _ => true
def lfs : List D → Bool
 | [] => true
 | x :: xs => lf x && lfs xs
end
mutual
theorem Rep.lf {K : PySem.W.Frag} {o o' : Gh} {H : Hp} : ∀ {v : V} {d : D}, Rep K o H v d → BV.lf d = true → Rep K o' H v d
 | _, _, .non, _ => .non
 | _, _, .bl b, _ => .bl b
 | _, _, .int i, _ => .int i
 | _, _, .str x h1 h2, _ => .str x h1 h2
 | _, _, .lst a vs ds h1 h2 h3 h4, n => nomatch n
 | _, _, .tup a vs ds h1 h2 h3, n => .tup a vs ds h1 h2 (RepAll.lf h3 n)
 | _, _, .dct tk a ks vs ds kvs h1 h2 h3 h5 h4 e, n => nomatch n
theorem RepAll.lf {K : PySem.W.Frag} {o o' : Gh} {H : Hp} : ∀ {vs : List V} {ds : List D}, RepAll K o H vs ds → lfs ds = true → RepAll K o' H vs ds
 | _, _, .nil, _ => .nil
 | _, _, .cons v d vs ds h1 h2, n => by
  rw [lfs, Bool.and_eq_true] at n
  exact .cons v d vs ds (Rep.lf h1 n.1) (RepAll.lf h2 n.2)
end
def lfT : T → Bool
 | .val d => lf d
 | .own xs => lfs xs
 | .own2 _ => false
 | .ownd _ kvs => lfs (kvs.map (·.2))
 | .cel _ => true
 | .scr _ => false
 | .exn _ _ _ _ => false
 | .tree _ => false
 | .rof _ _ => false
 | .recs _ _ => false
def lfC : Ce → Bool
 | .dead => true
 | .lst xs => lfs xs
 | .dct _ kvs => lfs (kvs.map (·.2))
 | .tab => true
 | .rcd _ _ => false
def lfS (S : Sto) : Bool := S.all lfC
def frT : T → T
 | .own xs => .val (.list xs)
 | .own2 xss => .val (.list (xss.map PyData.list))
 | .ownd q kvs => .val (.dict (mkD q kvs))
 | .tree d => .val d
 | .recs _ ns => .recs false ns
 | t => t
def frE (ρ : En) : En := ρ.map fun t => t.map frT
def b6T (f : SE) : SE := fun ρ S => match f (frE ρ) S with
 | .ok t S1 => if lfT t && lfS S1 then .ok t S1 else .bad
 | .exc e S1 => if lfS S1 then .exc e S1 else .bad
 | .bad => .bad
def Y4 (o o2 : Gh) : Gh := fun a => match o a with
 | some (.slot i) => some (.slot i)
 | _ => o2 a
section
variable {G : Cc} {W : WX} {o o1 o2 : Gh} {c c1 c2 : Cs} {ρ : En} {σ : L2.St} {H H1 H2 : Hp} {S S1 : Sto} {pos p : Pos} {a b e : Expr} {f : SE} {t : T} {v : V}
theorem RepT.fr {K : PySem.W.Frag} {i : Nat} (tr : Trk o H) (r : RepT K o c H (.slot i) v t) : RepT K (s9 A8 o) c H (.slot i) v (frT t) := by
 -- its owner: temporary, then let go
 have un : ∀ a, o a = some (.slot i) → s9 A8 o a = none := fun a h => by unfold s9; rw [h]; rfl
 cases t with
 | val d => exact Rep.kept tr j9 r
 | own xs =>
  obtain ⟨x, vs, rfl, q, h, z, ra⟩ := r
  exact .lst x vs _ h (un _ q) z (ra.kept tr j9)
 | own2 xss =>
  obtain ⟨x, as, rfl, q, h, nd, z, le, f⟩ := r
  refine .lst x _ _ h (un _ q) (by rw [List.length_map]; exact z) ?_
  clear h nd z q
  induction as generalizing xss with
  | nil =>
   cases xss with
   | nil => exact .nil
   | cons _ _ => simp at le
  | cons b as ih =>
   cases xss with
   | nil => simp at le
   | cons xs xss =>
    obtain ⟨q', vs, h', z', ra⟩ := f 0 b xs rfl rfl
    refine .cons _ _ _ _ (.lst b vs xs h' (un _ q') z' (ra.kept tr j9)) (ih xss (by simpa using le) fun i b' xs' e1 e2 => f (i + 1) b' xs' (by simpa using e1) (by simpa using e2))
 | ownd tk kvs =>
  obtain ⟨x, ks, vs, ds, rfl, q, h, z, z2, ra, rfl⟩ := r
  exact .dct tk x ks vs ds _ h.r (un _ q) z z2 (ra.kept tr j9) rfl
 | cel n => exact r
 | scr ns =>
  obtain ⟨x, e, z, h⟩ := r
  refine ⟨x, e, z, ?_⟩
  rcases h with h | ⟨h, n⟩ | h
  ·exact .inl h
  ·exact .inr (.inl ⟨h, m9 n⟩)
  ·exact .inr (.inr h)
 | exn _ _ _ _ => exact r
 | tree d =>
  obtain ⟨as, r, nd⟩ := r
  exact r.rep un
 | rof b u =>
  obtain ⟨x, fv, e, q, h1, h2, h3⟩ := r
  exact ⟨x, fv, e, f6 q rfl, h1, h2, h3.moved tr j9 fun b e => f6 e rfl⟩
 | recs b ns => exact RcsR.free un j9 r
theorem RS.fr {K : PySem.W.Frag} (rs : RS K o c ρ S σ H) : RS K (s9 A8 o) c (frE ρ) S σ H :=
 ⟨by unfold frE; rw [List.length_map]; exact rs.len, fun i t e => by
  unfold frE at e
  rw [List.getElem?_map] at e
  cases e1 : ρ[i]? with
  | none => rw [e1] at e; cases e
  | some u =>
   rw [e1] at e
   cases u with
   | none => cases e
   | some t0 =>
    simp only [Option.map_some, Option.some.injEq] at e
    subst e
    obtain ⟨v, ev, r⟩ := rs.slot i t0 e1
    exact ⟨v, ev, r.fr rs.cs.trk⟩, rs.cs.drop fun _ => rfl⟩
theorem a0w (s : Step d3 (s9 A8 o) c H o2 c2 H2) : Step d3 o c H (Y4 o o2) c2 H2 where
 keep := fun a u e n => s.keep a u e fun w hw => n w (F4 hw).1
 own := fun a w e n => by
  unfold Y4
  rw [e]
  cases w with
  | slot i => rfl
  | cell n' => exact absurd trivial n
  | tmp => exact s.own a _ (f6 e rfl) n
  | prot => exact s.own a _ (f6 e rfl) n
  | seen => exact s.own a _ (f6 e rfl) n
 new := fun a e n => by
  unfold Y4 at n
  rw [e] at n
  exact s.new a (m9 e) n
 pre := s.pre
theorem a0T (s : Step d3 (s9 A8 o) c H o2 c2 H2) (tr : Trk o H) {a : Addr} {w : Ow} (h : o2 a = some w) : Y4 o o2 a = some w := by
 unfold Y4
 cases e : o a with
 | none => exact h
 | some u =>
  cases u with
  | slot i =>
   have e1 : s9 A8 o a = none := by unfold s9; rw [e]; rfl
   have := s.new a e1 (by rw [h]; simp)
   obtain ⟨u, hu, _⟩ := tr a (by rw [e]; simp)
   rw [this] at hu; cases hu
  | _ => exact h
theorem b6B (s : Step d3 (s9 A8 o) c H o2 c2 H2) (tr : Trk o H) (tr2 : Trk o2 H2) : Trk (Y4 o o2) H2 := fun a h => by
 cases e : o a with
 | none => exact tr2 a (by unfold Y4 at h; rw [e] at h; exact h)
 | some u =>
  cases u with
  | slot i =>
   obtain ⟨u, hu, q⟩ := tr a (by rw [e]; simp)
   exact ⟨u, s.keep a u hu (fun w hw => by have := (F4 hw).1; rw [e] at this; cases this; have := (F4 hw).2; simp [A8] at this), q⟩
  | _ => exact tr2 a (by unfold Y4 at h; rw [e] at h; exact h)
theorem CellR.lf {K : PySem.W.Frag} {n : Nat} {b : Addr} {k : Ce} (h : ∀ b, o b = some (.cell n) → o1 b = some (.cell n)) (hk : lfC k = true) (y : CellR K o H n b k) : CellR K o1 H n b k := by
 cases k with
 | dead => trivial
 | lst xs =>
  obtain ⟨q1, vs, q2, q3, q4⟩ := y
  exact ⟨h _ q1, vs, q2, q3, q4.lf hk⟩
 | dct tk kvs =>
  obtain ⟨q1, ks, vs, ds, q2, q3, q5, q4, q6⟩ := y
  refine ⟨h _ q1, ks, vs, ds, q2, q3, q5, q4.lf ?_, q6⟩
  subst q6
  have hl : ks.length = ds.length := by rw [q5, q4.length]
  have e : (ks.zip ds).map (·.2) = ds := List.map_snd_zip (Nat.le_of_eq hl.symm)
  have hk' : lfs ((ks.zip ds).map (·.2)) = true := hk
  rw [e] at hk'
  exact hk'
 | tab =>
  obtain ⟨q0, q1, ps, q2, q3, q4⟩ := y
  exact ⟨q0, h _ q1, ps, q2, q3, fun pos cv e => by
   obtain ⟨b, e1, e2, e3⟩ := q4 pos cv e
   exact ⟨b, e1, e2, h _ e3⟩⟩
 | rcd b v => cases hk
theorem b5s {K : PySem.W.Frag} (s : Step d3 (s9 A8 o) c H o2 c2 H2) (tr : Trk o H) (cs : CS K o2 c2 S H2) (h : lfS S = true) : CS K (Y4 o o2) c2 S H2 :=
 ⟨cs.clen, fun n a k e1 e2 => (cs.cell n a k e1 e2).lf (fun a q => a0T s tr q) (List.all_eq_true.mp h _ (List.mem_of_getElem? e2)), b6B s tr cs.trk⟩
theorem b7y {K : PySem.W.Frag} (s : Step d3 (s9 A8 o) c H o2 c2 H2) (tr : Trk o H) (h : lfT t = true) (r : RepT K o2 c2 H2 .tmp v t) : RepT K (Y4 o o2) c2 H2 .tmp v t := by
 cases t with
 | val d => exact Rep.lf r h
 | own xs =>
  obtain ⟨x, vs, e, q, h', z, ra⟩ := r
  exact ⟨x, vs, e, a0T s tr q, h', z, ra.lf h⟩
 | ownd tk kvs =>
  obtain ⟨x, ks, vs, ds, e, q, h', z, z2, ra, e'⟩ := r
  refine ⟨x, ks, vs, ds, e, a0T s tr q, h', z, z2, ra.lf ?_, e'⟩
  subst e'
  have e : (ks.zip ds).map (·.2) = ds := List.map_snd_zip (Nat.le_of_eq (by rw [z2, ra.length]))
  have hk' : lfs ((ks.zip ds).map (·.2)) = true := h
  rw [e] at hk'
  exact hk'
 | cel n => exact r
 | own2 _ => cases h
 | scr _ => cases h
 | exn _ _ _ _ => cases h
 | tree _ => cases h
 | rof _ _ => cases h
 | recs _ _ => cases h
theorem a8U (h : EV G e f) : EV G e (b6T f) := by
 obtain ⟨t, pp, q⟩ := h
 refine ⟨t, pp, fun W σ H ρ S o c Q nt rs p => ?_⟩
 refine q W σ H (frE ρ) S (s9 A8 o) c Q (fun a h => nt a (F4 h).1) rs.fr ?_
 unfold b6T at p
 cases e1 : f (frE ρ) S with
 | bad => rw [e1] at p; exact p
 | exc e' S' =>
  rw [e1] at p
  intro cls d o' c' H' s rs' nt' x
  by_cases hb : lfS S' = true
  ·simp only [if_pos hb] at p
   exact p cls d (Y4 o o') c' H' (a0w s) (rs.step (a0w s) (b5s s rs.cs.trk rs'.cs hb)) (fun a h => by
    unfold Y4 at h
    split at h
    ·cases h
    ·exact nt' a h) x
  ·simp only [if_neg hb] at p; exact p.elim
 | ok t0 S' =>
  rw [e1] at p
  intro v o' c' H' s rs' r'
  by_cases hb : (lfT t0 && lfS S') = true
  ·simp only [if_pos hb] at p
   rw [Bool.and_eq_true] at hb
   exact p v (Y4 o o') c' H' (a0w s) (rs.step (a0w s) (b5s s rs.cs.trk rs'.cs hb.2)) (b7y s rs.cs.trk hb.1 r')
  ·simp only [if_neg hb] at p; exact p.elim

section
variable {K : PySem.W.Frag} {κ : Type} [DecidableEq κ]
theorem b29 (f : κ → BV.D) (g : κ → Key ⊕ List Key) (hf : ∀ k, keyOf (f k) = some (g k)) (hg : ∀ a b, g a = g b → a = b) (k : κ) : ∀ (kvs : List (κ × V)) (ds : List BV.D), kvs.length = ds.length →
  ((kvs.map (fun p => f p.1)).zip ds).any (fun p => decide (keyOf p.1 = some (g k))) = kvs.any (fun p => decide (p.1 = k))
 | [], _, _ => rfl
 | _ :: _, [], h => by simp at h
 | p :: kvs, d :: ds, h => by
  have ih := b29 f g hf hg k kvs ds (by simpa using h)
  rw [List.map_cons, List.zip_cons_cons, List.any_cons, List.any_cons, ih, hf]
  congr 1
  by_cases e : p.1 = k
  ·rw [decide_eq_true e, e, decide_eq_true rfl]
  ·rw [decide_eq_false e, decide_eq_false (fun z => e (hg _ _ (Option.some.inj z)))]
theorem b25 (f : κ → BV.D) (g : κ → Key ⊕ List Key) (hf : ∀ k, keyOf (f k) = some (g k)) (hg : ∀ a b, g a = g b → a = b) (k : κ) {v : V} {dv : BV.D} (rv : Rep K o H v dv) : ∀ (kvs : List (κ × V)) (ds : List BV.D), RepAll K o H (kvs.map (·.2)) ds →
  ∃ ds', RepAll K o H ((kvs.map fun p => if p.1 = k then (p.1, v) else p).map (·.2)) ds' ∧
   ((kvs.map (fun p => f p.1)).zip ds).map (fun p => if keyOf p.1 = some (g k) then (p.1, dv) else p) = ((kvs.map fun p => if p.1 = k then (p.1, v) else p).map (fun p => f p.1)).zip ds'
 | [], ds, r => by cases r; exact ⟨[], .nil, rfl⟩
 | p :: kvs, [], r => by cases r
 | p :: kvs, d :: ds, r => by
  cases r with
  | cons _ _ _ _ r1 r2 =>
   obtain ⟨ds', i1, i2⟩ := b25 f g hf hg k rv kvs ds r2
   by_cases e : p.1 = k
   ·refine ⟨dv :: ds', ?_, ?_⟩
    ·rw [List.map_cons, List.map_cons, if_pos e]
     exact .cons _ _ _ _ rv i1
    ·rw [List.map_cons, List.zip_cons_cons, List.map_cons, i2, List.map_cons, List.map_cons, List.zip_cons_cons, if_pos e, if_pos (by rw [hf, e])]
   ·refine ⟨d :: ds', ?_, ?_⟩
    ·rw [List.map_cons, List.map_cons, if_neg e]
     exact .cons _ _ _ _ r1 i1
    ·rw [List.map_cons, List.zip_cons_cons, List.map_cons, i2, List.map_cons, List.map_cons, List.zip_cons_cons, if_neg e, if_neg (by rw [hf]; exact fun z => e (hg _ _ (Option.some.inj z)))]
theorem b1M (f : κ → BV.D) (g : κ → Key ⊕ List Key) (hf : ∀ k, keyOf (f k) = some (g k)) (hg : ∀ a b, g a = g b → a = b) (k : κ) {v : V} {dv : BV.D} (rv : Rep K o H v dv) (kvs : List (κ × V)) (ds : List BV.D) (r : RepAll K o H (kvs.map (·.2)) ds) :
  ∃ ds', RepAll K o H ((putK kvs k v).map (·.2)) ds' ∧ b74 ((kvs.map (fun p => f p.1)).zip ds) (g k) (f k) dv = ((putK kvs k v).map (fun p => f p.1)).zip ds' ∧ (putK kvs k v).length ≤ kvs.length + 1 := by
 have hl : kvs.length = ds.length := by have := r.length; rw [List.length_map] at this; exact this
 unfold b74 putK
 rw [b29 f g hf hg k kvs ds hl]
 by_cases h : (kvs.any fun p => decide (p.1 = k)) = true
 ·rw [if_pos h, if_pos h]
  obtain ⟨ds', i1, i2⟩ := b25 f g hf hg k rv kvs ds r
  exact ⟨ds', i1, i2, by rw [List.length_map]; omega⟩
 ·rw [if_neg h, if_neg h]
  refine ⟨ds ++ [dv], ?_, ?_, by rw [List.length_append]; exact Nat.le_refl _⟩
  ·rw [List.map_append]
   exact r.append (.cons _ _ _ _ rv .nil)
  ·rw [List.map_append, List.zip_append (by rw [List.length_map]; exact hl)]
   rfl
end
def a5G (q : Bool) (kvs : List (BV.D × BV.D)) (kd v : BV.D) : Option (List (BV.D × BV.D)) := match keyOf kd with
 | some k => if (b38 q k || (q && a1T k)) = true ∧ kvs.length < sizeLine then some (b74 kvs k kd v) else none
 | none => none
def b89 (K : PySem.W.Frag) (o : Gh) (H : Hp) (a : Addr) (q : Bool) (kvs : List (BV.D × BV.D)) : Prop := ∃ ks vs ds, DAtW K q H a ks vs ∧ vs.length ≤ sizeLine ∧ ks.length = vs.length ∧ RepAll K o H vs ds ∧ kvs = ks.zip ds
def b7v (K : PySem.W.Frag) : TSet := fun o i v H Q => ∃ (a : Addr) (kvs : List (List Int × V)) (xs : List (List Int × Addr × Value)) (b : Addr) (k : List Int), o = .ref a ∧ HX H a xs ∧ KX K H kvs xs ∧ xs.length ≤ sizeLine ∧ i = .ref b ∧ SqT K H b (k.map V.int) ∧ ∀ ep r, RelV v r → Q (upd H a (.ext (tdf ep a (storedH xs k b r))))
theorem c1D {X : Cx} (hu : X.A.units + 1 < cLine) : PSet X (b7v X.K) := by
 intro pins s σ H o i v ov iv u Q I ro ri rv q
 obtain ⟨a, kvs, xs, b, k, rfl, e, kx, hl, rfl, eb, q⟩ := q
 cases (show ov = Value.ref a from ro)
 cases (show iv = Value.ref b from ri)
 exact c1P hu I e kx hl eb rv fun ep s' I' => ⟨_, I', q ep u rv⟩
def a4a (K : PySem.W.Frag) : TSet := fun o i v H Q => rSetL o i v H Q ∨ (rSetD o i v H Q ∨ b7v K o i v H Q)
theorem a2K {K : PySem.W.Frag} {a : Addr} {q : Bool} {kvs kvs' : List (BV.D × BV.D)} {kd dv : BV.D} {y v : V} (h : b89 K o H a q kvs) (no : o a ≠ none) (tr : Trk o H) (ry : RepU K o H y kd) (rv : Rep K o H v dv) (e : a5G q kvs kd dv = some kvs') (Q : Hp → Prop) (hQ : ∀ u, E5 u → b89 K o (upd H a u) a q kvs' → Q (upd H a u)) :
  a4a K (.ref a) y v H Q := by
 obtain ⟨ks, vs, ds, hd, hz, hl, ra, rfl⟩ := h
 unfold a5G at e
 cases ek : keyOf kd with
 | none => rw [ek] at e; cases e
 | some k =>
  rw [ek] at e
  dsimp only at e
  split at e
  ·rename_i hc
   cases e
   obtain ⟨hft, hlen⟩ := hc
   cases q with
   | false =>
    cases k with
    | inr k => cases hft
    | inl k =>
     obtain ⟨es, hH, rfl, rfl⟩ := hd
     have ey : kd = b1f k := a1k ek
     have ev : y = kV k := c1o ry ey
     subst ey
     obtain ⟨ds', i1, i2, i3⟩ := b1M (fun k => b1f k) (fun k => .inl k) a09 (fun a b h => Sum.inl.inj h) k rv es ds ra
     have hn : es.length < sizeLine := by
      have e1 := ra.length
      rw [List.length_map] at e1
      rw [List.length_zip, List.length_map, ← e1, Nat.min_self] at hlen
      exact hlen
     refine .inr (.inl ⟨a, _, rfl, .inl ⟨es, k, hH, ev, hn, rfl⟩, hQ (.dK (putK es k v)) trivial ⟨_, _, ds', ⟨_, upd_same, rfl, rfl⟩, by rw [List.length_map]; omega, by rw [List.length_map, List.length_map], i1.kept tr (m8 no), ?_⟩⟩)
     exact i2
   | true =>
    have hft' : a1T k = true := by
     cases k with
     | inl k => exact hft
     | inr k => exact hft
    obtain ⟨ns, rfl⟩ := J9 hft'
    obtain ⟨es, xs, hH, kx, hs, rfl, rfl⟩ := hd
    have ey := G2 ek
    subst ey
    obtain ⟨b, us, rfl, sb, _, rb⟩ := ry.tupV
    have eu : us = ns.map V.int := Q6 rb
    subst eu
    obtain ⟨ds', i1, i2, i3⟩ := b1M (fun k => .tuple (k.map PyData.int)) G3 t8 F9 ns rv es ds ra
    have hn : es.length < sizeLine := by
     have e1 := ra.length
     rw [List.length_map] at e1
     rw [List.length_zip, List.length_map, ← e1, Nat.min_self] at hlen
     exact hlen
    have hx : xs.length ≤ sizeLine := by rw [← Paired.length kx]; omega
    refine .inr (.inr ⟨a, es, xs, b, ns, rfl, hH, kx, hx, rfl, sb, fun ep r rr => hQ _ trivial ⟨_, _, ds', ⟨putK es ns v, storedH xs ns b r, ⟨ep, upd_same⟩, (kx.put ns sb rr).kept (fun c us z => SqT.kept tr (m8 no) z), hs, rfl, rfl⟩, by rw [List.length_map]; omega, by rw [List.length_map, List.length_map], i1.kept tr (m8 no), ?_⟩⟩)
    exact i2
  ·cases e
theorem RS.owndAt {K : PySem.W.Frag} {S : Sto} {i : Nat} {q : Bool} {kvs : List (BV.D × BV.D)} (rs : RS K o c ρ S σ H) (e : ρ[i]? = some (some (.ownd q kvs))) : ∃ a, σ[i]? = some (some (.ref a)) ∧ o a = some (.slot i) ∧ b89 K o H a q kvs := by
 obtain ⟨v, e1, a, ks, vs, ds, rfl, h1, h2, h3, h4, h5, h6⟩ := rs.slot i _ e
 exact ⟨a, e1, h1, ks, vs, ds, h2, h3, h4, h5, h6⟩

variable {f1 f2 : SE} {i : Nat} {x : Str} {xp tp : Pos}
theorem PSet.or {X : Cx} {r r' : TSet} (h : PSet X r) (h' : PSet X r') : PSet X (fun o i v H Q => r o i v H Q ∨ r' o i v H Q) := by
 intro pins s σ H o i v ov iv u Q I ro ri rv q
 rcases q with q | q
 ·exact h pins s σ H o i v ov iv u Q I ro ri rv q
 ·exact h' pins s σ H o i v ov iv u Q I ro ri rv q
theorem b1G {X : Cx} (hu : X.A.units + 1 < cLine) : PSet X (a4a X.K) := PSet.or set_list (PSet.or (set_dict hu) (c1D hu))
def b9r (i : Nat) (fi fv : SE) : SS := sE fv fun t ρ S => match asD t with
 | none => .bad
 | some d => match ρ[i]? with
  | some (some (.own xs)) => sD fi (fun di ρ S => match di with
   | .int j => (match ixN xs.length j with | some k => .nx (ρ.set i (some (.own (xs.set k d)))) S | none => .bad)
   | _ => .bad) ρ S
  | some (some (.ownd q kvs)) => sD fi (fun di ρ S => match a5G q kvs di d with
   | some kvs' => .nx (ρ.set i (some (.ownd q kvs'))) S
   | none => .bad) ρ S
  | _ => .bad
theorem b3c (i : Nat) (h1 : EV G e f1) (h2 : UV G b f2) (hN : G.N[i]? = some x := by rfl) (hv : Vis G.sc x := by first | exact Or.inl rfl | exact Or.inr (Or.inl rfl) | exact Or.inr (Or.inr rfl)) (hd : (x == ("__debug__" : Str)) = false := by decide) (hcd : (x == ("__classdict__" : Str)) = false := by decide)
  (ha : ∀ (env : PySem.Env) v, assign (.Subscript (.Name x xp) b tp) env v = (do
   let ov ← holding [v] (eval (.Name x xp) env)
   let iv ← holding [v, ov] (eval b env)
   standAt tp
   holding [v, ov, iv] (setItem ov iv v)
   release [v, ov, iv] []) := by intro _ _; rfl)
  (hs : ∀ env : PySem.Env, env.scope = G.sc → swapsWithSole [.Subscript (.Name x xp) b tp] e pos.line env = pure false := by intro _ _; rfl) (hw : ∀ env : PySem.Env, swappedStores [.Subscript (.Name x xp) b tp] e env = pure none := by intro _; rfl)
  (h3 : ∀ env : PySem.Env, (assignEach [.Subscript (.Name x xp) b tp] env).map (·.2) = [assign (.Subscript (.Name x xp) b tp) env] := by intro _; rfl) : SV G (.Assign [.Subscript (.Name x xp) b tp] e pos) (b9r i f2 f1) := by
 obtain ⟨t1, p1, q1⟩ := h1
 obtain ⟨t2, p2, q2⟩ := h2
 refine ⟨fun W => tAsg (t1 W) (L2.gSub (tVar i) (t2 W) (a4a G.K)), fun X W k => ps_asg (p1 X W k) (pg_sub (pe_var (pos := xp) (k.at hN) (k.vis hv) hd hcd) (p2 X W k) (by have := b1G (X := X) (by have := k.units; omega); rw [k.K] at this; exact this) (ha _)) (hs _ k.sc) (hw _) (h3 _), fun W σ H ρ S o c D nt rs ps => ?_⟩
 refine (q1 W).s nt rs ps fun t S1 v o1 c1 H1 s1 rs1 r1 p1 => ?_
 cases e1 : asD t with
 | none => simp only [e1] at p1; exact p1.elim
 | some d =>
  simp only [e1] at p1
  split at p1
  rotate_left
  ·rename_i q kvs e2
   have rd := r1.toD rs1.cs.trk e1
   have rs2 := rs1.untmp
   have nt2 : NT (unT o1) := C2
   have st : Step B4 o1 c1 H1 (unT o1) c1 H1 := ⟨fun a u e _ => e, fun a w e n => f6 e (by cases w <;> first | rfl | exact absurd trivial n), fun a e n => absurd (m9 e) n, List.prefix_refl c1⟩
   have p2 := PostS.step st p1
   obtain ⟨a, ev, ho, hh⟩ := rs2.owndAt e2
   refine ⟨_, ev, (q2 W).s nt2 rs2 p2 fun di S3 iv o3 c3 H3 s3 nt3 rs3 ri p3 => ?_⟩
   have rd3 := rd.step rs2.cs.trk s3
   obtain ⟨a', ev', ho', hh'⟩ := rs3.owndAt e2
   rw [ev] at ev'
   cases ev'
   cases e4 : a5G q kvs di d with
   | none => simp only [e4] at p3; exact p3.elim
   | some kvs' =>
    simp only [e4] at p3
    exact a2K hh' (by rw [ho']; simp) rs3.cs.trk ri rd3 e4 _ fun u ou ⟨ks, vs, ds, h2, h3, h4, h5, h6⟩ => p3 σ o3 c3 _ (Y6 ho') nt3 (rs3.change ho' ou ev ⟨a, ks, vs, ds, rfl, ho', h2, h3, h4, h5, h6⟩)
  ·exact p1.elim
  ·rename_i xs e2
   ·skip
    have rd := r1.toD rs1.cs.trk e1
    have rs2 := rs1.untmp
    have nt2 : NT (unT o1) := C2
    have st : Step B4 o1 c1 H1 (unT o1) c1 H1 := ⟨fun a u e _ => e, fun a w e n => f6 e (by cases w <;> first | rfl | exact absurd trivial n), fun a e n => absurd (m9 e) n, List.prefix_refl c1⟩
    have p2 := PostS.step st p1
    obtain ⟨a, vs, ev, ho, hH, hz, ra⟩ := rs2.ownAt e2
    refine ⟨_, ev, (q2 W).s nt2 rs2 p2 fun di S3 iv o3 c3 H3 s3 nt3 rs3 ri p3 => ?_⟩
    have rd3 := rd.step rs2.cs.trk s3
    obtain ⟨a', vs', ev', ho', hH', hz', ra'⟩ := rs3.ownAt e2
    rw [ev] at ev'
    cases ev'
    cases di with
    | int j =>
     cases e4 : ixN xs.length j with
     | none => simp only [e4] at p3; exact p3.elim
     | some kk =>
      simp only [e4] at p3
      refine .inl ⟨a, vs', j, kk, rfl, ri.intV, hH', by rw [ra'.length]; exact e4, ?_⟩
      obtain ⟨s4, rs4⟩ := a0u (d := d) (v := v) (xs := xs) rs3 ho' ev (RepAll.set rd3 kk ra') (by rw [List.length_set]; exact hz')
      exact p3 σ o3 c3 _ s4 nt3 rs4
    | _ => exact p3.elim

theorem a0L {K : PySem.W.Frag} {n : Nat} {ca : Addr} {u : HO} {ce : Ce} (rs : RS K o c ρ S σ H) (h : o ca = some (.cell n)) (hc : c[n]? = some ca) (ou : E5 u) (r : CellR K o (upd H ca u) n ca ce) :
  Step d3 o c H o c (upd H ca u) ∧ RS K o c ρ (S.set n ce) σ (upd H ca u) := by
 have st : Step d3 o c H o c (upd H ca u) := ⟨fun b x e m => by rw [upd_ne (fun z => m (.cell n) (by rw [z]; exact h) trivial)]; exact e, fun _ _ e _ => e, fun _ e m => absurd e m, List.prefix_refl c⟩
 have kw : Kept o H o (upd H ca u) := m8 (by rw [h]; simp)
 refine ⟨st, rs.step st ⟨by rw [List.length_set]; exact rs.cs.clen, fun m b k e1 e2 => ?_, fun b hb => ?_⟩⟩
 ·by_cases q : m = n
  ·subst q
   rw [hc] at e1
   cases e1
   have hl := (List.getElem?_eq_some_iff.mp hc).1
   rw [List.getElem?_set_self (by rw [← rs.cs.clen]; exact hl)] at e2
   cases e2
   exact r
  ·rw [List.getElem?_set_ne (Ne.symm q)] at e2
   exact (rs.cs.cell m b k e1 e2).kept rs.cs.trk kw fun b q1 => ⟨q1, fun x hx => by
    rw [upd_ne (fun z => by rw [z, h] at q1; cases q1; exact q rfl)]
    exact hx⟩
 ·by_cases z : b = ca
  ·subst z; exact ⟨_, upd_same, ou⟩
  ·obtain ⟨x, e, q⟩ := rs.cs.trk b hb
   exact ⟨x, by rw [upd_ne z]; exact e, q⟩
theorem a92 {K : PySem.W.Frag} {n : Nat} {ca : Addr} {xs' : List BV.D} {vs' : List V} {d : BV.D} {w : V} (rs : RS K o c ρ S σ H) (h : o ca = some (.cell n)) (hc : c[n]? = some ca) (r : RepAll K o H vs' xs') (z : vs'.length ≤ sizeLine) :
  Step d3 o c H o c (upd H ca (.lst vs')) ∧ RS K o c ρ (S.set n (.lst xs')) σ (upd H ca (.lst vs')) :=
 a0L rs h hc trivial ⟨h, vs', upd_same, z, r.kept rs.cs.trk (m8 (by rw [h]; simp))⟩
def b0a (i : Nat) (fi fv : SE) : SS := sE fv fun t ρ S => match asD t with
 | none => .bad
 | some d => match ρ[i]? with
  | some (some (.cel n)) => sD fi (fun di ρ S => match S[n]? with
   | some (.lst xs) => (match di with
    | .int j => (match ixN xs.length j with | some k => .nx ρ (S.set n (.lst (xs.set k d))) | none => .bad)
    | _ => .bad)
   | some (.dct q kvs) => (match a5G q kvs di d with | some kvs' => .nx ρ (S.set n (.dct q kvs')) | none => .bad)
   | _ => .bad) ρ S
  | _ => .bad
theorem a3j (i : Nat) (h1 : EV G e f1) (h2 : UV G b f2) (hN : G.N[i]? = some x := by rfl) (hv : Vis G.sc x := by first | exact Or.inl rfl | exact Or.inr (Or.inl rfl) | exact Or.inr (Or.inr rfl)) (hd : (x == ("__debug__" : Str)) = false := by decide) (hcd : (x == ("__classdict__" : Str)) = false := by decide)
  (ha : ∀ (env : PySem.Env) v, assign (.Subscript (.Name x xp) b tp) env v = (do
   let ov ← holding [v] (eval (.Name x xp) env)
   let iv ← holding [v, ov] (eval b env)
   standAt tp
   holding [v, ov, iv] (setItem ov iv v)
   release [v, ov, iv] []) := by intro _ _; rfl)
  (hs : ∀ env : PySem.Env, env.scope = G.sc → swapsWithSole [.Subscript (.Name x xp) b tp] e pos.line env = pure false := by intro _ _; rfl) (hw : ∀ env : PySem.Env, swappedStores [.Subscript (.Name x xp) b tp] e env = pure none := by intro _; rfl)
  (h3 : ∀ env : PySem.Env, (assignEach [.Subscript (.Name x xp) b tp] env).map (·.2) = [assign (.Subscript (.Name x xp) b tp) env] := by intro _; rfl) : SV G (.Assign [.Subscript (.Name x xp) b tp] e pos) (b0a i f2 f1) := by
 obtain ⟨t1, p1, q1⟩ := h1
 obtain ⟨t2, p2, q2⟩ := h2
 refine ⟨fun W => tAsg (t1 W) (L2.gSub (tVar i) (t2 W) (a4a G.K)), fun X W k => ps_asg (p1 X W k) (pg_sub (pe_var (pos := xp) (k.at hN) (k.vis hv) hd hcd) (p2 X W k) (by have := b1G (X := X) (by have := k.units; omega); rw [k.K] at this; exact this) (ha _)) (hs _ k.sc) (hw _) (h3 _), fun W σ H ρ S o c D nt rs ps => ?_⟩
 refine (q1 W).s nt rs ps fun t S1 v o1 c1 H1 s1 rs1 r1 p1 => ?_
 cases e1 : asD t with
 | none => simp only [e1] at p1; exact p1.elim
 | some d =>
  simp only [e1] at p1
  split at p1
  rotate_left
  ·exact p1.elim
  ·rename_i n e2
   ·skip
    have rd := r1.toD rs1.cs.trk e1
    have rs2 := rs1.untmp
    have nt2 : NT (unT o1) := C2
    have st : Step B4 o1 c1 H1 (unT o1) c1 H1 := ⟨fun a u e _ => e, fun a w e n => f6 e (by cases w <;> first | rfl | exact absurd trivial n), fun a e n => absurd (m9 e) n, List.prefix_refl c1⟩
    have p2 := PostS.step st p1
    obtain ⟨cv, ev, ca, hca, rfl⟩ := rs2.slot i _ e2
    refine ⟨_, ev, (q2 W).s nt2 rs2 p2 fun di S3 iv o3 c3 H3 s3 nt3 rs3 ri p3 => ?_⟩
    have rd3 := rd.step rs2.cs.trk s3
    have hc3 := a06 s3.pre hca
    cases e5 : S3[n]? with
    | none => simp only [e5] at p3; exact p3.elim
    | some k0 =>
     cases k0 with
     | dead => simp only [e5] at p3; exact p3.elim
     | tab => simp only [e5] at p3; exact p3.elim
     | rcd b v => simp only [e5] at p3; exact p3.elim
     | dct q kvs =>
      simp only [e5] at p3
      cases e4 : a5G q kvs di d with
      | none => simp only [e4] at p3; exact p3.elim
      | some kvs' =>
       simp only [e4] at p3
       obtain ⟨ho3, hh⟩ := rs3.cs.cell n ca _ hc3 e5
       refine a2K hh (by rw [ho3]; simp) rs3.cs.trk ri rd3 e4 _ fun u ou hh' => ?_
       obtain ⟨s4, rs4⟩ := a0L (ce := .dct q kvs') rs3 ho3 hc3 ou ⟨ho3, hh'⟩
       exact p3 σ o3 c3 _ s4.weak nt3 rs4
     | lst xs =>
      simp only [e5] at p3
      cases di with
      | int j =>
       dsimp only at p3
       cases e4 : ixN xs.length j with
       | none => simp only [e4] at p3; exact p3.elim
       | some kk =>
        simp only [e4] at p3
        obtain ⟨ho3, vs', hH', hz', ra'⟩ := rs3.cs.cell n ca _ hc3 e5
        refine .inl ⟨ca, vs', j, kk, rfl, ri.intV, hH', by rw [ra'.length]; exact e4, ?_⟩
        obtain ⟨s4, rs4⟩ := a92 (d := d) (w := v) rs3 ho3 hc3 (RepAll.set rd3 kk ra') (by rw [List.length_set]; exact hz')
        exact p3 σ o3 c3 _ s4.weak nt3 rs4
      | _ => exact p3.elim

def F0 (o : Gh) (a : Addr) (n : Nat) : Gh := fun b => if b = a then some (.cell n) else o b
def b73 : T → Option Ce
 | .own xs => some (.lst xs)
 | .ownd q kvs => some (.dct q kvs)
 | _ => none
theorem b68 {K : PySem.W.Frag} {v0 : V} {t0 : T} {k0 : Ce} (rs1 : RS K o1 c1 ρ S1 σ H1) (r0 : RepT K o1 c1 H1 .tmp v0 t0) (hk : b73 t0 = some k0) :
  ∃ a, v0 = .ref a ∧ o1 a = some .tmp ∧ RS K (F0 (unT o1) a S1.length) (c1 ++ [a]) ρ (S1 ++ [k0]) σ H1 := by
 have hex : ∃ a, v0 = .ref a ∧ o1 a = some .tmp ∧ (∃ u, H1 a = some u ∧ E5 u) ∧ ∀ o2, o2 a = some (.cell S1.length) → Kept o1 H1 o2 H1 → CellR K o2 H1 S1.length a k0 := by
  cases t0 with
  | own xs =>
   cases hk
   obtain ⟨a, vs, e, ho, hH, hz, ra⟩ := r0
   exact ⟨a, e, ho, ⟨_, hH, trivial⟩, fun o2 h2 kp => ⟨h2, vs, hH, hz, ra.kept rs1.cs.trk kp⟩⟩
  | ownd q kvs =>
   cases hk
   obtain ⟨a, ks, vs, ds, e, ho, hd, hz, hl, ra, e2⟩ := r0
   refine ⟨a, e, ho, ?_, fun o2 h2 kp => ⟨h2, ks, vs, ds, hd, hz, hl, ra.kept rs1.cs.trk kp, e2⟩⟩
   cases q with
   | false =>
    obtain ⟨es, h, _⟩ := hd
    exact ⟨_, h, trivial⟩
   | true =>
    obtain ⟨es, xs, ⟨_, h⟩, _⟩ := hd
    exact ⟨_, h, trivial⟩
  | _ => cases hk
 obtain ⟨a, ev, ho, hu, hC⟩ := hex
 refine ⟨a, ev, ho, ?_⟩
 have rs2 := rs1.untmp
 have tr2 : Trk (F0 (unT o1) a S1.length) H1 := fun b hb => by
  by_cases z : b = a
  ·subst z; exact hu
  ·exact rs2.cs.trk b (by unfold F0 at hb; rw [if_neg z] at hb; exact hb)
 -- what is data does not have the list at a: it was owned
 have kp : Kept o1 H1 (F0 (unT o1) a S1.length) H1 := fun b u e n => ⟨e, by
  unfold F0
  rw [if_neg (fun z => by rw [z, ho] at n; cases n)]
  exact m9 n⟩
 have kpR : ∀ {w : Ow} {v' : V} {t' : T}, (∀ b, o1 b = some w → b ≠ a ∧ b0S w = false) → RepT K o1 c1 H1 w v' t' → RepT K (F0 (unT o1) a S1.length) (c1 ++ [a]) H1 w v' t' := by
  intro w v' t' hw r
  have cw : ∀ b, o1 b = some w → F0 (unT o1) a S1.length b = some w := fun b e => by
   unfold F0
   rw [if_neg (hw b e).1]
   exact f6 e (hw b e).2
  cases t' with
  | val d => exact Rep.kept rs1.cs.trk kp r
  | own xs =>
   obtain ⟨x, vs, e, q, h, z, ra⟩ := r
   exact ⟨x, vs, e, cw _ q, h, z, ra.kept rs1.cs.trk kp⟩
  | own2 xss =>
   obtain ⟨x, as, e, q, h, nd, z, le, f⟩ := r
   refine ⟨x, as, e, cw _ q, h, nd, z, le, fun i b xs e1 e2 => ?_⟩
   obtain ⟨q', vs, h', z', ra⟩ := f i b xs e1 e2
   exact ⟨cw _ q', vs, h', z', ra.kept rs1.cs.trk kp⟩
  | ownd tk kvs =>
   obtain ⟨x, ks, vs, ds, e, q, h, z, z2, ra, e'⟩ := r
   exact ⟨x, ks, vs, ds, e, cw _ q, h, z, z2, ra.kept rs1.cs.trk kp, e'⟩
  | cel n =>
   obtain ⟨x, e, q⟩ := r
   exact ⟨x, by rw [List.getElem?_append_left (List.getElem?_eq_some_iff.mp e).1]; exact e, q⟩
  | scr ns =>
   obtain ⟨x, e, z, h⟩ := r
   refine ⟨x, e, z, ?_⟩
   rcases h with h | ⟨h, n⟩ | h
   ·exact .inl h
   ·exact .inr (.inl ⟨h, (kp x _ h n).2⟩)
   ·exact .inr (.inr h)
  | exn _ _ _ _ => exact r
  | tree d =>
   obtain ⟨as, r, nd⟩ := r
   exact ⟨as, r.move (fun x u e q => ⟨e, cw _ q⟩) (fun b us z => SqT.kept rs1.cs.trk kp z), nd⟩
  | rof b u =>
   obtain ⟨x, fv, e, q, h1, h2, h3⟩ := r
   have cq : ∀ b, o1 b = some .seen → F0 (unT o1) a S1.length b = some .seen := fun b e => by
    unfold F0
    rw [if_neg (fun z => by rw [z, ho] at e; cases e)]
    exact f6 e rfl
   exact ⟨x, fv, e, cq _ q, h1, h2, h3.moved rs1.cs.trk kp cq⟩
  | recs b ns => exact RcsR.move (fun x u e q => ⟨e, cw _ q⟩) kp (fun n x e => by rw [List.getElem?_append_left (List.getElem?_eq_some_iff.mp e).1]; exact e) r
 have cs3 : CS K (F0 (unT o1) a S1.length) (c1 ++ [a]) (S1 ++ [k0]) H1 := by
  refine ⟨by rw [List.length_append, List.length_append, rs1.cs.clen]; rfl, fun n b k e1 e2 => ?_, tr2⟩
  by_cases hl : n < S1.length
  ·rw [List.getElem?_append_left (by rw [rs1.cs.clen]; exact hl)] at e1
   rw [List.getElem?_append_left hl] at e2
   exact (rs1.cs.cell n b k e1 e2).kept rs1.cs.trk kp fun b q1 => ⟨by
    unfold F0
    rw [if_neg (fun z => by rw [z, ho] at q1; cases q1)]
    exact f6 q1 rfl, fun u hu => hu⟩
  ·have hn : n = S1.length := by
    have := (List.getElem?_eq_some_iff.mp e2).1
    rw [List.length_append] at this
    simp at this
    omega
   subst hn
   rw [List.getElem?_append_right (by rw [rs1.cs.clen]; exact Nat.le_refl _), rs1.cs.clen, Nat.sub_self] at e1
   rw [List.getElem?_append_right (Nat.le_refl _), Nat.sub_self] at e2
   simp only [List.getElem?_cons_zero, Option.some.injEq] at e1 e2
   subst e1 e2
   exact hC _ (by unfold F0; rw [if_pos rfl]) kp
 exact ⟨rs1.len, fun j t' e => by
  obtain ⟨v', e1, r'⟩ := rs1.slot j t' e
  exact ⟨v', e1, kpR (w := .slot j) (fun b hb => ⟨(fun z => by rw [z, ho] at hb; cases hb), rfl⟩) r'⟩, cs3⟩
def b7R (f : SE) : SE := fun ρ S => match f ρ S with
 | .ok t S1 => (match b73 t with | some k => .ok (.cel S1.length) (S1 ++ [k]) | none => .bad)
 | .exc e S1 => .exc e S1
 | .bad => .bad
theorem b5D (h : EV G e f) : EV G e (b7R f) := by
 obtain ⟨t, pp, q⟩ := h
 refine ⟨t, pp, fun W σ H ρ S o c Q nt rs p => ?_⟩
 refine q W σ H ρ S o c Q nt rs ?_
 unfold b7R at p
 cases e1 : f ρ S with
 | bad => rw [e1] at p; exact p
 | exc e' S' => rw [e1] at p; exact p
 | ok t0 S1 =>
  rw [e1] at p
  cases ek : b73 t0 with
  | none => simp only [ek] at p; exact p.elim
  | some k0 =>
   simp only [ek] at p
   intro v o' c' H' s rs' r'
   obtain ⟨a, rfl, ho, rsP⟩ := b68 rs' r' ek
   refine p (.ref a) (F0 (unT o') a S1.length) (c' ++ [a]) H' ⟨s.keep, fun b w e n => ?_, fun b e n => ?_, s.pre.trans ⟨[a], rfl⟩⟩ rsP ⟨a, ?_, rfl⟩
   ·have h := s.own b w e n
    unfold F0
    rw [if_neg (fun z => by rw [z, ho] at h; cases h; exact nt b e)]
    exact f6 h (by cases w <;> first | rfl | exact absurd e (nt b))
   ·by_cases z : b = a
    ·rw [z] at e ⊢
     exact s.new a e (by rw [ho]; simp)
    ·unfold F0 at n
     rw [if_neg z] at n
     exact s.new b e (P7 n)
   ·rw [← rs'.cs.clen, List.getElem?_append_right (Nat.le_refl _), Nat.sub_self]
    rfl
def b7g (i : Nat) (f : SE) : SS := u8 i (b7R f)
theorem b6F (i : Nat) {pos' : Pos} (h : EV G e f) (hN : G.N[i]? = some x := by rfl) (hx : Loc G.sc x := by first | exact Or.inl rfl | exact Or.inr rfl) (nd : G.N.Nodup := by (try dsimp only [Cc.blk]); decide +kernel)
  (hs : ∀ env : PySem.Env, env.scope = G.sc → swapsWith e (some (.Name x pos')) pos.line env = pure false := by intro _ _; rfl) (hf : G.fn x = true ∨ G.sc.names.lookup x = some .local := by first | exact Or.inl rfl | exact Or.inr rfl) : SV G (.Assign [.Name x pos'] e pos) (b7g i f) :=
 g9 i (b5D h) hN hx nd hs hf
end
end BV
namespace BV
open PySem L2

theorem a8Y {α : Type} : ∀ {as : List α} {k j : Nat} {b : α}, as.Nodup → as[k]? = some b → as[j]? = some b → k = j
 | [], _, _, _, _, e, _ => by simp at e
 | a :: as, 0, 0, _, _, _, _ => rfl
 | a :: as, 0, j + 1, b, n, e1, e2 => by
  simp at e1 e2
  subst e1
  exact absurd (List.mem_of_getElem? e2) (List.nodup_cons.mp n).1
 | a :: as, k + 1, 0, b, n, e1, e2 => by
  simp at e1 e2
  subst e2
  exact absurd (List.mem_of_getElem? e1) (List.nodup_cons.mp n).1
 | a :: as, k + 1, j + 1, b, n, e1, e2 => by
  have := a8Y (k := k) (j := j) (b := b) (List.nodup_cons.mp n).2 (by simpa using e1) (by simpa using e2)
  rw [this]

section
variable {G : Cc} {W : WX} {o o1 o2 : Gh} {c c1 c2 : Cs} {ρ : En} {σ : L2.St} {H H1 H2 : Hp} {S S1 : Sto} {pos p : Pos} {a b e : Expr} {f f1 f2 f3 : SE} {t : T} {v : V} {i : Nat} {x : Str} {xp tp up : Pos}
theorem b4w {K : PySem.W.Frag} {xss : List (List BV.D)} {j : Nat} {xs : List BV.D} (rs : RS K o c ρ S σ H) (e : ρ[i]? = some (some (.own2 xss))) (hx : xss[j]? = some xs) :
  ∃ (a : Addr) (as : List Addr) (b : Addr) (vs : List V), σ[i]? = some (some (.ref a)) ∧ H a = some (.lst (as.map V.ref)) ∧ as.length = xss.length ∧ as[j]? = some b ∧ o b = some (.slot i) ∧ H b = some (.lst vs) ∧ vs.length ≤ sizeLine ∧ RepAll K o H vs xs ∧
   ∀ vs' xs', vs'.length ≤ sizeLine → RepAll K o H vs' xs' → Step B4 o c H o c (upd H b (.lst vs')) ∧ RS K o c (ρ.set i (some (.own2 (xss.set j xs')))) S σ (upd H b (.lst vs')) := by
 obtain ⟨v, ev, a, as, rfl, q, h, nd, z, le, f⟩ := rs.slot i _ e
 have hj : j < as.length := by rw [le]; exact (List.getElem?_eq_some_iff.mp hx).1
 have hb : as[j]? = some as[j] := List.getElem?_eq_getElem hj
 obtain ⟨qb, vs, hv, zv, rv⟩ := f j _ xs hb hx
 refine ⟨a, as, as[j], vs, ev, h, le, hb, qb, hv, zv, rv, fun vs' xs' z' r' => ?_⟩
 have nda : a ∉ as := (List.nodup_cons.mp nd).1
 have nds : as.Nodup := (List.nodup_cons.mp nd).2
 have ne : a ≠ as[j] := fun z => nda (by rw [z]; exact List.getElem_mem hj)
 have kw : Kept o H o (upd H as[j] (.lst vs')) := m8 (by rw [qb]; simp)
 refine ⟨Y6 qb, rs.change qb trivial ev ⟨a, as, rfl, q, by rw [upd_ne ne]; exact h, nd, z, by rw [List.length_set]; exact le, fun k b' xs'' e1 e2 => ?_⟩⟩
 by_cases hk : k = j
 ·subst hk
  rw [hb] at e1
  cases e1
  rw [List.getElem?_set_self (by rw [← le]; exact hj)] at e2
  cases e2
  exact ⟨qb, vs', upd_same, z', r'.kept rs.cs.trk kw⟩
 ·rw [List.getElem?_set_ne (Ne.symm hk)] at e2
  obtain ⟨q1, ws, h1, z1, r1⟩ := f k b' xs'' e1 e2
  have hk2 := (List.getElem?_eq_some_iff.mp e1)
  obtain ⟨hkl, hke⟩ := hk2
  refine ⟨q1, ws, ?_, z1, r1.kept rs.cs.trk kw⟩
  rw [upd_ne (fun z => hk (a8Y nds e1 (by rw [z]; exact hb)))]
  exact h1

theorem b2C {K : PySem.W.Frag} {xss : List (List BV.D)} {j : Int} {xs : List BV.D} (rs : RS K o c ρ S σ H) (e : ρ[i]? = some (some (.own2 xss))) (hx : atI xss j = some xs) :
  ∃ (a : Addr) (as : List Addr) (b : Addr) (vs : List V) (k : Nat), σ[i]? = some (some (.ref a)) ∧ H a = some (.lst (as.map V.ref)) ∧ atI (as.map V.ref) j = some (.ref b) ∧ ixN xss.length j = some k ∧ xss[k]? = some xs ∧ as[k]? = some b ∧ o b = some (.slot i) ∧ H b = some (.lst vs) ∧ vs.length ≤ sizeLine ∧ RepAll K o H vs xs ∧
   ∀ vs' xs', vs'.length ≤ sizeLine → RepAll K o H vs' xs' → Step B4 o c H o c (upd H b (.lst vs')) ∧ RS K o c (ρ.set i (some (.own2 (xss.set k xs')))) S σ (upd H b (.lst vs')) := by
 unfold L2.atI at hx
 cases hn : ixN xss.length j with
 | none => rw [hn] at hx; cases hx
 | some k =>
  rw [hn] at hx
  obtain ⟨a, as, b, vs, h1, h2, h3, h4, h5, h6, h7, h8, h9⟩ := b4w rs e hx
  refine ⟨a, as, b, vs, k, h1, h2, ?_, rfl, hx, h4, h5, h6, h7, h8, h9⟩
  unfold L2.atI
  rw [List.length_map, h3, hn]
  simp [h4]
theorem b2m {α : Type} {xs : List α} {j : Int} {k : Nat} {y : α} (h : ixN xs.length j = some k) (h' : xs[k]? = some y) : atI xs j = some y := by
 unfold L2.atI
 rw [h]
 exact h'
end
end BV
namespace BV
open PySem L2

def b0f (b : BT1) (tt : SB) (elt : SE) (ρ : En) : List D → Sto → R (List (List D))
 | [], S => .ok [] S
 | d :: ds, S => match b d ρ with
  | none => .bad
  | some ρ1 => match tt ρ1 S with
   | .ok true S1 => (match elt ρ1 S1 with
    | .ok (.own x) S2 => R.l (b0f b tt elt ρ ds S2) fun xs S3 => .ok (x :: xs) S3
    | _ => .bad)
   | .ok false S1 => b0f b tt elt ρ ds S1
   | _ => .bad
def b9B (src : SI) (b : BT1) (tt : SB) (elt : SE) (vs : List Nat) : SE := fun ρ S => R.l (src ρ S) fun ds S1 => R.l (b0f b tt elt (t6 ρ vs) ds S1) fun xs S2 => .ok (.own2 xs) S2
def Rows (K : PySem.W.Frag) (o : Gh) (H : Hp) (w : Ow) (as : List Addr) (yss : List (List D)) : Prop :=
 as.length = yss.length ∧ ∀ (i : Nat) (b : Addr) (xs : List D), as[i]? = some b → yss[i]? = some xs → o b = some w ∧ ∃ vs, H b = some (.lst vs) ∧ vs.length ≤ sizeLine ∧ RepAll K o H vs xs
theorem Rows.step {K : PySem.W.Frag} {o o1 : Gh} {c c1 : Cs} {H H1 : Hp} {w : Ow} {as : List Addr} {yss : List (List D)} {vol : Ow → Prop} (tr : Trk o H) (s : Step vol o c H o1 c1 H1) (hw : ¬ vol w) (r : Rows K o H w as yss) : Rows K o1 H1 w as yss :=
 ⟨r.1, fun i b xs e1 e2 => by
  obtain ⟨q, vs, h, z, ra⟩ := r.2 i b xs e1 e2
  exact ⟨s.own _ _ q hw, vs, s.keep b _ h (fun w' hw' => by rw [q] at hw'; cases hw'; exact hw), z, ra.step tr s⟩⟩
theorem Rows.of {K : PySem.W.Frag} {o : Gh} {H : Hp} {w : Ow} {as : List Addr} {yss : List (List D)} (r : Rows K o H w as yss) : ∀ b ∈ as, o b = some w := fun b hb => by
 obtain ⟨i, hi, e⟩ := List.mem_iff_getElem.mp hb
 have e1 : as[i]? = some b := by rw [List.getElem?_eq_getElem hi, e]
 have hy : i < yss.length := by rw [← r.1]; exact hi
 exact (r.2 i b _ e1 (List.getElem?_eq_getElem hy)).1
def a1d (o : Gh) (a : Addr) : Gh := fun b => if b = a then some .prot else o b
def a3R (o : Gh) (as : List Addr) : Gh := fun b => if b ∈ as then some .tmp else o b
section
variable {G : Cc} {W : WX} {o o1 o2 : Gh} {c c1 c2 : Cs} {ρ : En} {σ : L2.St} {H H1 H2 : Hp} {S S1 : Sto} {pos p : Pos} {a b e tg : Expr} {f f1 f2 f3 : SE} {t : T} {v : V} {i : Nat} {x : Str} {xp tp up : Pos}
theorem b9q {L vs : List Nat} {src : SI} {b : BT1} {tt : SB} {elt : SE} {wi : TI} {g : TG} {tT : TT} {tE : TE} {scope : Scope} (hi : IR d3 G W wi src) (hg : GR G.K L g b) (hL : ∀ j ∈ L, j ∈ vs)
  (ht : TR (G.blk scope) (fun _ _ _ _ => False) tT tt) (he : ER (G.blk scope) (fun _ _ _ _ => False) tE elt) : ER G W (tLc wi g tT tE vs) (b9B src b tt elt vs) := by
 intro σ H ρ S o c Q nt rs ps
 refine hi σ H ρ S o c _ nt rs ?_
 unfold b9B at ps
 cases e : src ρ S with
 | bad => rw [e] at ps; exact ps.elim
 | exc e' S' => rw [e] at ps; exact ps
 | ok ds S1 =>
  rw [e] at ps
  intro J o1 c1 H1 s1 nt1 rs1 it D hD
  have ps1 : PostE G W o1 c1 ρ σ H1 (R.l (b0f b tt elt (t6 ρ vs) ds S1) fun xs S2 => .ok (.own2 xs) S2) Q := PostE.step s1 ps
  refine ⟨fun i m H => m = ds.length - i ∧ i ≤ ds.length ∧ ∃ S o c as yss, Step d3 o1 c1 H1 o c H ∧ NT o ∧ o D = some .prot ∧ CS G.K o c S H ∧ H D = some (.lst (as.map V.ref)) ∧ (D :: as).Nodup ∧ (∀ b ∈ as, ∀ w, o1 b = some w → d3 w) ∧ Rows G.K o H .prot as yss ∧ as.length ≤ i ∧
   PostE G W o1 c1 ρ σ H1 (R.l (b0f b tt elt (t6 ρ vs) (ds.drop i) S) fun xs S2 => .ok (.own2 (yss ++ xs)) S2) Q,
   ⟨ds.length, by simp, Nat.zero_le _, S1, mkO o1 D .prot, c1, [], [], Step.laidO rs1.cs.trk hD, ?_, u9, rs1.cs.laidO hD trivial, upd_same, by simp, by simp, ⟨rfl, fun i b xs e => by simp at e⟩, Nat.le_refl _, by rw [List.drop_zero]; exact ps1⟩, ?_⟩
  ·intro a z
   by_cases q : a = D
   ·subst q; rw [u9] at z; cases z
   ·rw [B8 q] at z; exact nt1 a z
  rintro i m H2 ⟨rfl, hi2, S2, o2, c2, as, yss, s2, nt2, hp2, cs2, hD2, nd2, nw2, ra2, la2, p2⟩
  obtain ⟨stop, go⟩ := it.2 o2 c2 H2 s2 cs2.trk i
  by_cases hlt : i < ds.length
  ·obtain ⟨gg1, gg2⟩ := go ds[i] (List.getElem?_eq_getElem hlt)
   rw [List.drop_eq_getElem_cons hlt] at p2
   refine .inr ⟨gg1, fun H => ∃ S o c as yss, Step d3 o1 c1 H1 o c H ∧ NT o ∧ o D = some .prot ∧ CS G.K o c S H ∧ H D = some (.lst (as.map V.ref)) ∧ (D :: as).Nodup ∧ (∀ b ∈ as, ∀ w, o1 b = some w → d3 w) ∧ Rows G.K o H .prot as yss ∧ as.length ≤ i + 1 ∧
    PostE G W o1 c1 ρ σ H1 (R.l (b0f b tt elt (t6 ρ vs) (ds.drop (i + 1)) S) fun xs S2 => .ok (.own2 (yss ++ xs)) S2) Q, fun H' q => ⟨ds.length - (i + 1), by omega, rfl, hlt, q⟩, fun x H3 y => ?_⟩
   obtain ⟨gr, rx⟩ := gg2 x H3 y
   have cs3 := a6W cs2 gr
   have s3 : Step d3 o2 c2 H2 o2 c2 H3 := O0 gr
   have rsw : RS G.K o2 c2 (t6 ρ vs) S2 (L2.wipe σ vs) H3 := ((rs1.step (s2.trans s3) cs3)).wipe vs
   unfold b0f at p2
   cases eb : b ds[i] (t6 ρ vs) with
   | none => rw [eb] at p2; exact p2.elim
   | some ρ4 =>
    rw [eb] at p2
    refine hg (L2.wipe σ vs) H3 (t6 ρ vs) ρ4 S2 o2 c2 x ds[i] _ nt2 rsw rx eb fun σ4 rs4 f4 l4 => ?_
    refine ⟨b1t hL l4 f4, ?_⟩
    refine ht σ4 H3 ρ4 S2 o2 c2 _ nt2 rs4 ?_
    have hD3 : H3 D = some (.lst (as.map V.ref)) := gr _ _ hD2
    have np : ∀ w, o2 D = some w → ¬ d3 w := fun w hw => by rw [hp2] at hw; cases hw; exact fun z => z
    have ra3 := ra2.step cs2.trk s3 (vol := d3) (show ¬ d3 Ow.prot from fun z => z)
    cases et : tt ρ4 S2 with
    | bad => simp only [et] at p2; exact p2.elim
    | exc e' S' => simp only [et] at p2; exact p2.elim
    | ok bb S3 =>
     simp only [et] at p2
     intro o5 c5 H5 s5 nt5 rs5
     have hp5 : o5 D = some .prot := s5.own D _ hp2 (fun z => z)
     have hD5 : H5 D = some (.lst (as.map V.ref)) := s5.keep D _ hD3 np
     have sa : Step d3 o1 c1 H1 o5 c5 H5 := (s2.trans s3).trans s5
     have ra5 := ra3.step cs3.trk s5 (vol := d3) (show ¬ d3 Ow.prot from fun z => z)
     cases bb with
     | false =>
      rw [if_neg Bool.false_ne_true]
      exact ⟨S3, o5, c5, as, yss, sa, nt5, hp5, rs5.cs, hD5, nd2, nw2, ra5, Nat.le_succ_of_le la2, p2⟩
     | true =>
      rw [if_pos rfl]
      refine he σ4 H5 ρ4 S3 o5 c5 _ nt5 rs5 ?_
      cases ee : elt ρ4 S3 with
      | bad => simp only [ee] at p2; exact p2.elim
      | exc e' S' => simp only [ee] at p2; exact p2.elim
      | ok t S4 =>
       simp only [ee] at p2
       intro v o6 c6 H6 s6 rs6 r6
       cases t with
       | own xd =>
        obtain ⟨a6, ws, rfl, ho6, hH6, hz6, hr6⟩ := r6
        have np5 : ∀ w, o5 D = some w → ¬ d3 w := fun w hw => by rw [hp5] at hw; cases hw; exact fun z => z
        have hp6 : o6 D = some .prot := s6.own D _ hp5 (fun z => z)
        have hD6 : H6 D = some (.lst (as.map V.ref)) := s6.keep D _ hD5 np5
        have cs6 := rs6.cs
        have ra6 := ra5.step rs5.cs.trk s6 (vol := d3) (show ¬ d3 Ow.prot from fun z => z)
        have sz := sa.trans s6
        have na : a6 ≠ D := fun z => by rw [z, hp6] at ho6; cases ho6
        have nas : a6 ∉ as := fun z => by rw [ra6.of _ z] at ho6; cases ho6
        have n1 : ∀ w, o1 a6 = some w → d3 w := fun w hw => by
         by_cases q : d3 w
         ·exact q
         ·have := sz.own a6 w hw q
          rw [ho6] at this
          cases this
          exact absurd hw (nt1 a6)
        have aD : ∀ b ∈ as, b ≠ D := fun b hb z => (List.nodup_cons.mp nd2).1 (z ▸ hb)
        have pO : ∀ b, b ≠ a6 → a1d (unT o6) a6 b = unT o6 b := fun b hb => by unfold a1d; rw [if_neg hb]
        have pS : a1d (unT o6) a6 a6 = some .prot := by unfold a1d; rw [if_pos rfl]
        have kp : ∀ u, Kept o6 H6 (a1d (unT o6) a6) (upd H6 D u) := fun u b x e n => by
         have h1 : b ≠ a6 := fun z => by rw [z, ho6] at n; cases n
         have h2 : b ≠ D := fun z => by rw [z, hp6] at n; cases n
         exact ⟨by rw [upd_ne h2]; exact e, by rw [pO b h1]; exact m9 n⟩
        have pP : ∀ b w, o6 b = some w → b0S w = false → a1d (unT o6) a6 b = some w := fun b w e n => by
         have h1 : b ≠ a6 := fun z => by rw [z, ho6] at e; cases e; cases n
         rw [pO b h1]
         exact f6 e n
        have hlen : (as.map V.ref).length < sizeLine := by rw [List.length_map]; exact Nat.lt_of_le_of_lt la2 (Nat.lt_of_lt_of_le hlt it.1)
        have emap : as.map V.ref ++ [V.ref a6] = (as ++ [a6]).map V.ref := by rw [List.map_append]; rfl
        refine ⟨as.map V.ref, hD6, hlen, S4, a1d (unT o6) a6, c6, as ++ [a6], yss ++ [xd], ⟨fun b u e n => ?_, fun b w e n => ?_, fun b e n => ?_, sz.pre⟩, fun b h => ?_, pP D _ hp6 rfl, ?_, by rw [emap]; exact upd_same, ?_, ?_, ⟨by rw [List.length_append, List.length_append, ra6.1]; rfl, fun k b xs e1 e2 => ?_⟩, by rw [List.length_append]; exact Nat.succ_le_succ la2, ?_⟩
        ·rw [upd_ne (ne_of_none e hD)]
         exact sz.keep b u e n
        ·refine pP b w (sz.own b w e n) ?_
         cases w <;> first | rfl | exact absurd e (nt1 b)
        ·by_cases q : b = a6
         ·rw [q]
          rw [q] at e
          exact sz.new a6 e (by rw [ho6]; simp)
         ·rw [pO b q] at n
          exact sz.new b e (P7 n)
        ·by_cases q : b = a6
         ·rw [q, pS] at h; cases h
         ·rw [pO b q] at h
          exact C2 b h
        ·refine cs6.move (kp _) (fun b n e => ⟨pP b _ e rfl, fun u hu => by
          rw [upd_ne (fun z => by rw [z, hp6] at e; cases e)]; exact hu⟩) fun b hb => ?_
         by_cases q : b = D
         ·rw [q]; exact ⟨_, upd_same, trivial⟩
         ·rw [upd_ne q]
          by_cases q2 : b = a6
          ·rw [q2]; exact ⟨_, hH6, trivial⟩
          ·rw [pO b q2] at hb
           exact cs6.trk b (P7 hb)
        ·rw [← List.cons_append]
         refine List.nodup_append.mpr ⟨nd2, by simp, fun u hu w hw => ?_⟩
         simp only [List.mem_singleton] at hw
         subst hw
         rcases List.mem_cons.mp hu with h | h
         ·rw [h]; exact Ne.symm na
         ·exact fun z => nas (z ▸ h)
        ·intro b hb
         rcases List.mem_append.mp hb with h | h
         ·exact nw2 b h
         ·simp only [List.mem_singleton] at h
          rw [h]; exact n1
        ·by_cases hk : k < as.length
         ·rw [List.getElem?_append_left hk] at e1
          rw [List.getElem?_append_left (by rw [← ra6.1]; exact hk)] at e2
          obtain ⟨q1, us, q2, q3, q4⟩ := ra6.2 k b xs e1 e2
          exact ⟨pP b _ q1 rfl, us, by rw [upd_ne (aD b (List.mem_of_getElem? e1))]; exact q2, q3, q4.kept cs6.trk (kp _)⟩
         ·have hk2 : k = as.length := by
           have := (List.getElem?_eq_some_iff.mp e1).1
           rw [List.length_append] at this
           simp at this
           omega
          subst hk2
          rw [List.getElem?_append_right (Nat.le_refl _), Nat.sub_self] at e1
          rw [ra6.1, List.getElem?_append_right (Nat.le_refl _), Nat.sub_self] at e2
          simp only [List.getElem?_cons_zero, Option.some.injEq] at e1 e2
          subst e1 e2
          exact ⟨pS, ws, by rw [upd_ne na]; exact hH6, hz6, hr6.kept cs6.trk (kp _)⟩
        ·have p2 : PostE G W o1 c1 ρ σ H1 (R.l (R.l (b0f b tt elt (t6 ρ vs) (ds.drop (i + 1)) S4) fun xs S3 => .ok (xd :: xs) S3) fun xs S2 => .ok (.own2 (yss ++ xs)) S2) Q := p2
         cases el : b0f b tt elt (t6 ρ vs) (ds.drop (i + 1)) S4 with
         | bad => rw [el] at p2; exact p2
         | exc e' S' => rw [el] at p2; exact p2
         | ok xs S5 =>
          rw [el] at p2
          have p8 : PostE G W o1 c1 ρ σ H1 (.ok (.own2 (yss ++ (xd :: xs))) S5) Q := p2
          show PostE G W o1 c1 ρ σ H1 (.ok (.own2 ((yss ++ [xd]) ++ xs)) S5) Q
          rw [List.append_assoc]
          exact p8
       | _ => exact p2.elim
  ·have ei : i = ds.length := by omega
   subst ei
   rw [List.drop_length] at p2
   refine .inl ⟨stop (Nat.le_refl _), ?_⟩
   have p3 : PostE G W o1 c1 ρ σ H1 (.ok (.own2 yss) S2) Q := by
    have : PostE G W o1 c1 ρ σ H1 (.ok (.own2 (yss ++ [])) S2) Q := p2
    rw [List.append_nil] at this
    exact this
   have nDo : o1 D = none := rs1.cs.trk.new hD
   have tI : ∀ b ∈ D :: as, a3R o2 (D :: as) b = some .tmp := fun b hb => by unfold a3R; rw [if_pos hb]
   have tO : ∀ b, b ∉ D :: as → a3R o2 (D :: as) b = o2 b := fun b hb => by unfold a3R; rw [if_neg hb]
   have pr : ∀ b ∈ D :: as, o2 b = some .prot := fun b hb => by
    rcases List.mem_cons.mp hb with h | h
    ·rw [h]; exact hp2
    ·exact ra2.of b h
   have st : Step d3 o1 c1 H1 (a3R o2 (D :: as)) c2 H2 := ⟨s2.keep, fun a w e n => by
     have : a ∉ D :: as := fun z => by
      rcases List.mem_cons.mp z with h | h
      ·rw [h, nDo] at e; cases e
      ·exact n (nw2 a h w e)
     rw [tO a this]
     exact s2.own a w e n, fun a e n => by
     by_cases z : a ∈ D :: as
     ·exact s2.new a e (by rw [pr a z]; simp)
     ·rw [tO a z] at n
      exact s2.new a e n, s2.pre⟩
   have sup : ∀ a, o2 a = none → a3R o2 (D :: as) a = none := fun a e => by
    have : a ∉ D :: as := fun z => by rw [pr a z] at e; cases e
    rw [tO a this]
    exact e
   have cst : CS G.K (a3R o2 (D :: as)) c2 S2 H2 := cs2.turn sup (fun a n e => by
    have : a ∉ D :: as := fun z => by rw [pr a z] at e; cases e
    rw [tO a this]
    exact e) fun a n e => n (sup a e)
   exact p3 (.ref D) (a3R o2 (D :: as)) c2 H2 st (rs1.step st cst) ⟨D, as, rfl, tI D (List.mem_cons_self ..), hD2, nd2, Nat.le_trans la2 it.1, ra2.1, fun k b xs e1 e2 => by
    obtain ⟨q1, us, q2, q3, q4⟩ := ra2.2 k b xs e1 e2
    exact ⟨tI b (List.mem_cons_of_mem _ (List.mem_of_getElem? e1)), us, q2, q3, q4.kept cs2.trk (Kept.same sup)⟩⟩
theorem b8D {L : List Nat} {iter elt : Expr} {ifs : List Expr} {scope : Scope} {own : List (Str × Nat)} {src : SI} {b : BT1} {tt : SB} {fe : SE} (hi : IV d3 G tg iter src) (hg : GV (G.blk scope) tg L b) (ht : TVs (G.blk scope) ifs tt) (he : EV (G.blk scope) elt fe)
  (hcm : G.hot = none := by rfl) (hb : blkC G.N G.sc scope own = true := by (try dsimp only [Cc.blk]); decide +kernel) (hL : ∀ j ∈ L, j ∈ own.map (·.2) := by decide) (nd : G.N.Nodup := by (try dsimp only [Cc.blk]); decide +kernel) (hs : ∀ (env : PySem.Env) x, foldedSetIterable iter env x = pure x := by intro _ _; rfl) :
  EV G (.ListComp elt [⟨tg, iter, ifs, 0⟩] scope pos) (b9B src b tt fe (own.map (·.2))) := by
 obtain ⟨wi, pi, qi⟩ := hi
 obtain ⟨gg, pg, qg⟩ := hg
 obtain ⟨tT, pt, qt⟩ := ht
 obtain ⟨tE, pe, qe⟩ := he
 refine ⟨fun W => tLc (wi W) gg (tT fun _ _ _ _ => False) (tE fun _ _ _ _ => False) (own.map (·.2)), fun X W k => ?_, fun W => b9q (qi W) qg hL (qt _) (qe _)⟩
 exact pe_lc (k.calm hcm) (k.nd nd) (pi X W k) (blkOk_by (by rw [k.N, k.sc]; exact hb)) (fun s H C cl fp => pg _ _ (k.blk hcm scope s H C cl fp)) (fun s H C cl fp => pt _ _ (k.blk hcm scope s H C cl fp)) (fun s H C cl fp => pe _ _ (k.blk hcm scope s H C cl fp)) (hs _)
end
end BV
namespace BV
open PySem L2

def tyN : D → String
 | .none => "NoneType"
 | .bool _ => "bool"
 | .int _ => "int"
 | .str _ => "str"
 | .list _ => "list"
 | .tuple _ => "tuple"
 | .dict _ => "dict"
def q7 : D → Bool
 | .dict _ => true
 | _ => false
theorem b7p {K : PySem.W.Frag} {o : Gh} {H : Hp} {v : V} {d : D} (r : RepU K o H v d) (nd : q7 d = false) : TyX K H v (.type (tyN d)) := by
 cases d with
 | none => rw [r.nonV]; exact .base .non
 | bool b => rw [r.blV]; exact .base (.bl b)
 | int i => rw [r.intV]; exact .base (.int i)
 | str x => rw [r.strV.1]; exact .base (.str x)
 | list xs =>
  obtain ⟨a, vs, e, h1, _, _, ra⟩ := r.lstV
  rw [e]; exact .base (.lst h1)
 | tuple xs =>
  obtain ⟨a, vs, e, h1, _, ra⟩ := r.tupV
  rw [e]
  rcases h1 with (h | ⟨ob, h⟩) | h
  ·exact .base (.tup h)
  ·exact .fTuple h
  ·obtain ⟨ob, its, n, h1, h2, _⟩ := h
   exact .kTuple h1 h2
 | dict kvs => cases nd
def G5 (ty : String) : D → Option T := fun d => if q7 d then none else (kitB (tyN d) ty).map fun b => .val (.bool b)
section
variable {G : Cc} {W : WX} {o o1 o2 : Gh} {c c1 c2 : Cs} {ρ : En} {σ : L2.St} {H H1 H2 : Hp} {S S1 : Sto} {pos p : Pos} {a b e tg : Expr} {f f1 f2 f3 : SE} {t : T} {v : V} {i : Nat} {x : Str} {xp tp up : Pos}
theorem a0d {T : Str} {ty : String} {q : Pos} (h : UV G e f) (hm : G.mg "isinstance" = none) (ht : G.mg T = none) (hv : bootBuiltins T = some (.type ty)) (hg : G.sc.names.lookup ("isinstance" : Str) = some .globalImplicit := by rfl) (hgT : G.sc.names.lookup T = some .globalImplicit := by rfl)
  (hn : T ≠ "__name__" := by decide) (hdT : (T == ("__debug__" : Str)) = false := by decide)
  (he : ∀ env : PySem.Env, starEach [e, .Name T q] env = (false, eval e env) :: starEach [.Name T q] env := by intro _; rfl) (hpl : ∀ env : PySem.Env, (backTo pos (starEach [.Name T q] env)).any (·.1) = false := by intro _; rfl)
  (he2 : ∀ env : PySem.Env, starEach [.Name T q] env = (false, eval (.Name T q) env) :: starEach [] env := by intro _; rfl) : EV G (.Call (.Name "isinstance" p) [e, .Name T q] [] pos) (cUn (G5 ty) f) := by
 obtain ⟨t, pp, qq⟩ := h
 refine ⟨fun W => tCB (rIsi G.K) (tCons (t W) (tCons (tC (.ty ty)) tNil)), fun X W k => ?_, fun W σ H ρ S o c Q nt rs ps => ?_⟩
 ·have hc := call_isi (X := X)
  rw [k.K] at hc
  exact pe_callB hc (k.gl hg) (k.m hm) (by first | exact boot_isinstance | exact PyProof.Rows.boot_isinstance | rfl) (pa_cons (pp X W k) (pa_cons (pe_bltn (k.gl hgT) (k.m ht) hv rfl hn hdT) pa_nil (he2 _)) (he _)) (by decide) (by decide) (he _) (hpl _)
 ·refine (qq W).d nt rs ps fun d S1 v o1 c1 H1 s1 nt1 rs1 r1 p1 => ?_
  cases nd : q7 d with
  | true => simp only [G5, nd, if_true] at p1; exact p1.elim
  | false =>
   simp only [G5, nd, Bool.false_eq_true, if_false] at p1
   cases e1 : kitB (tyN d) ty with
   | none => simp only [e1, Option.map_none] at p1; exact p1.elim
   | some b =>
    simp only [e1, Option.map_some] at p1
    exact ⟨v, .ty ty, _, _, b, rfl, .ty ty, b7p r1 nd, kit_ty e1, f7 rs1 p1 (.bl b)⟩
end
end BV
namespace BV
open PySem L2

section
variable {G : Cc} {W : WX} {o o1 o2 : Gh} {c c1 c2 : Cs} {ρ : En} {σ : L2.St} {H H1 H2 : Hp} {S S1 : Sto} {pos p : Pos} {a b e tg : Expr} {f f1 f2 f3 : SE} {t : T} {v : V} {i : Nat} {x : Str} {xp tp up : Pos}
def a00 (i : Nat) : SE := fun ρ S => match ρ[i]? with
 | some (some (.scr ns)) => .ok (.val (.int (ns.length : Int))) S
 | _ => .bad
theorem a4u (i : Nat) (hm : G.mg "len" = none) (hN : G.N[i]? = some x := by rfl) (hv : Vis G.sc x := by first | exact Or.inl rfl | exact Or.inr (Or.inl rfl) | exact Or.inr (Or.inr rfl)) (hg : G.sc.names.lookup ("len" : Str) = some .globalImplicit := by rfl)
  (hd : (x == ("__debug__" : Str)) = false := by decide) (hcd : (x == ("__classdict__" : Str)) = false := by decide)
  (he : ∀ env : PySem.Env, starEach [.Name x xp] env = (false, eval (.Name x xp) env) :: starEach [] env := by intro _; rfl) (hpl : ∀ env : PySem.Env, (backTo pos (starEach [] env)).any (·.1) = false := by intro _; rfl) : EV G (.Call (.Name "len" p) [.Name x xp] [] pos) (a00 i) := by
 refine ⟨fun W => tCB (rLen G.K) (tCons (tVar i) tNil), fun X W k => ?_, fun W σ H ρ S o c Q nt rs ps => ?_⟩
 ·have hc := call_len (X := X)
  rw [k.K] at hc
  exact pe_callB hc (k.gl hg) (k.m hm) boot_len (pa_cons (pe_var (pos := xp) (k.at hN) (k.vis hv) hd hcd) pa_nil (he _)) (by decide) (by decide) (he _) (hpl _)
 ·unfold a00 at ps
  split at ps
  ·rename_i ns e
   obtain ⟨v, e1, r⟩ := rs.slot i _ e
   obtain ⟨a, e2, hq⟩ := (show RepT G.K o c H (.slot i) v (.scr ns) from r).scrL
   subst e2
   exact ⟨_, e1, .ref a, ns.length, rfl, .inl ⟨_, hq, by rw [List.length_map]⟩, f7 rs ps (.int _)⟩
  ·exact ps.elim
def a4G (b : BT1) (f : SE) : SS := sE f fun t ρ S => match BV.asD t with
 | some d => (match b d ρ with | some ρ' => .nx ρ' S | none => .bad)
 | none => .bad
theorem a0D {L : List Nat} {b : BT1} (hg : GV G tg L b) (h : EV G e f)
  (hs : ∀ env : PySem.Env, env.scope = G.sc → swapsWithSole [tg] e pos.line env = pure false := by intro _ _; rfl) (hw : ∀ env : PySem.Env, env.scope = G.sc → swappedStores [tg] e env = pure none := by intro _ _; rfl)
  (h3 : ∀ env : PySem.Env, (assignEach [tg] env).map (·.2) = [assign tg env] := by intro _; rfl) : SV G (.Assign [tg] e pos) (a4G b f) := by
 obtain ⟨t, p, q⟩ := h
 obtain ⟨g, pg, qg⟩ := hg
 refine ⟨fun W => tAsg (t W) g, fun X W k => ps_asg (p X W k) (pg X W k) (hs _ k.sc) (hw _ k.sc) (h3 _), fun W σ H ρ S o c D nt rs ps => ?_⟩
 refine (q W).s nt rs ps fun t S1 v o1 c1 H1 s1 rs1 r1 p1 => ?_
 cases e1 : BV.asD t with
 | none => simp only [e1] at p1; exact p1.elim
 | some d =>
  simp only [e1] at p1
  cases e2 : b d ρ with
  | none => simp only [e2] at p1; exact p1.elim
  | some ρ' =>
   simp only [e2] at p1
   have rd := r1.toD rs1.cs.trk e1
   have st : Step B4 o1 c1 H1 (unT o1) c1 H1 := ⟨fun a u e _ => e, fun a w e n => f6 e (by cases w <;> first | rfl | exact absurd trivial n), fun a e n => absurd (m9 e) n, List.prefix_refl c1⟩
   exact qg σ H1 ρ ρ' S1 (unT o1) c1 v d _ C2 rs1.untmp rd e2 fun σ' rs' _ _ => p1 σ' (unT o1) c1 H1 st C2 rs'
end
section
variable {G : Cc} {pos : Pos}
theorem V2 {x : Str} {i : Int} (hm : ∃ t, G.mg x = some (.int i t)) (hg : G.sc.names.lookup x = some .globalImplicit := by rfl) (hd : (x == ("__debug__" : Str)) = false := by decide) : EV G (.Name x pos) (cC (.int i)) := by
 obtain ⟨t, h⟩ := hm
 exact b6W h hg hd
end
theorem fun_of {K : PySem.W.Frag} {x qual : Str} {st : Stmt} {f : Addr} {fd : FuncData} {kws : List (Str × V)} (F : FunD K x qual (defArgs st) (defBody st) (defScope st) [] kws f fd) : Fun K x qual st f fd := by
 obtain ⟨oc, od, dV, kV, doc, pm, an, cdv, ct, osl, e, l, c, hd, _⟩ := F.ex
 rcases hd with ⟨_, e2⟩ | ⟨e2, _⟩
 ·subst e2
  exact ⟨⟨oc, od, kV, doc, pm, an, cdv, ct, osl, e, l, c⟩, F.kp⟩
 ·exact absurd rfl e2
theorem n9 {P : Program} {w : World} {K : PySem.W.Frag} {mg : Str → Option Value} {base : Heap} {cn : Bool} {k : Nat} {x qual : Str} {st : Stmt} {f : Addr} {fd : FuncData} {N ps : List Str} {g : SS} {sc : Scope} {n : Nat}
  (F : FunD K x qual (defArgs st) (defBody st) (defScope st) [] [] f fd) (hsc : defScope st = sc) (Sc : FnScope N ps sc) (hm : mg x = some (.ref f))
  (hb : ∀ (kV doc pm : Value) (an : Option Addr) (cdv ct : Value) (us : List Value), us.length = ps.length → bindArgs (PySem.W.fnOf x qual (defArgs st) (defBody st) (defScope st) .none kV doc pm an cdv ct) ⟨us, []⟩ = pure (ps.zip us)) (hlen : ps.length ≤ N.length) (hn : ps.length = n) {cod : Option (Addr × Str)}
  (h : SVs ⟨P, w, K, mg, base, N, sc, fun _ => true, k, true, none, cn, true, cod⟩ (defBody st) g) (hco : cod = none ∨ (f = He.fAd K (x, none) ∧ cod = some (He.codeOf K (x, none), qual ++ ".<locals>.")) := by exact Or.inl rfl) : FnD P w K mg base cn (k + 1) x n (fnF N g) := by
 subst hsc
 subst hn
 exact b7e (BV.fun_of F) Sc hm (F.bindsN hb) hlen hco h
theorem b6w {P : Program} {w : World} {K : PySem.W.Frag} {mg : Str → Option Value} {base : Heap} {cn : Bool} {k : Nat} {x qual : Str} {st : Stmt} {f : Addr} {fd : FuncData} {N ps : List Str} {g : SS} {sc : Scope} {n : Nat}
  (F : FunD K x qual (defArgs st) (defBody st) (defScope st) [] [] f fd) (hsc : defScope st = sc) (Sc : FnScope N ps sc) (hlen : ps.length ≤ N.length) (hn : ps.length = n) {cod : Option (Addr × Str)}
  (h : SVs ⟨P, w, K, mg, base, N, sc, fun _ => true, k, true, none, cn, true, cod⟩ (defBody st) g) (hco : cod = none ∨ (f = He.fAd K (x, none) ∧ cod = some (He.codeOf K (x, none), qual ++ ".<locals>.")) := by exact Or.inl rfl) : FnOk P w K mg base (CXg cn P w) (k + 1) f fd ps (spD K mg n (fnF N g)) := by
 subst hsc
 subst hn
 exact b9V (BV.fun_of F) Sc hlen hco h
end BV
namespace BV
open PySem PySem.Spec PyProof.Rows L2

theorem b6o : bootBuiltins "int" = some (.type "int") := by decide +kernel
theorem b5V : bootBuiltins "str" = some (.type "str") := by decide +kernel
theorem b4V : bootBuiltins "bool" = some (.type "bool") := by decide +kernel
theorem O2 : bootBuiltins "tuple" = some (.type "tuple") := by decide +kernel
theorem walk_ofCX {l : PySem.W.OpenLaw} {n k : Nat} {q : Program} {loose : List Str} {XP : (Str → Option Value) → Heap → Prop} {YP : World → Heap → Prop} {d : DefRec} {CX : World → CXT} {x : Str}
  (hn : l.most = some n) (hn2 : n ≤ sizeLine) (hdf : d.params.defaults = []) (hr : Room k callerA)
  (F : ∀ (w : World) (mg : Str → Option Value) (fa : Addr) (h : Heap), YP w h → h.Ns mainGlobals mg → mg d.name = some (.ref fa) →
   ∃ (K : PySem.W.Frag) (fd : FuncData) (sp : Sp), K.In h ∧ (∀ (s : Shared) (u : Value), BindsTo s fd ⟨[u], []⟩ [(x, u)]) ∧
    (∀ (H : Hp) (a : Addr) (ns : List Int), ns.length ≤ n → Only H → SqL K H a (ns.map V.int) → sp [.ref a] H (fun v _ => v = .bl true) fun _ _ _ => False) ∧
    ∀ base : Heap, K.In base → base.Ns mainGlobals mg → FnOk l.prog w K mg base (CX w) k fa fd [x] sp)
  (hCX : ∀ (w : World) (H : Hp) (s : Shared) (e : Value) (s' : Shared), CX w [] H s (fun _ _ _ => False) e s' → False) :
  PySem.W.WalkO q loose XP YP l.row.toRowW d [] (fun f vs => PySem.call f vs) := by
 refine Att.attach_call hn hdf fun w s₀ s₁ mg mb fa o pm cd doc a vs ns G Y ho hd hcd hmg hobj hints hlen hg => ?_
 obtain ⟨K, fd, sp, KX, hb, hsp, hF⟩ := F w mg fa _ Y G.T.g hmg
 exact law_call KX G.T.g G.T.b G.T.builtins G.T.nolimit hg hobj hints (Nat.le_trans hlen hn2) hr hF hb (fun H hO hS => hsp H a ns hlen hO hS) fun H e s' => hCX w H s₁ e s'
theorem cx_no {cn : Bool} {P : Program} (w : World) (H : Hp) (s : Shared) (e : Value) (s' : Shared) (h : CXg cn P w [] H s (fun _ _ _ => False) e s') : False := by
 cases cn <;> exact h.choose_spec.choose_spec.choose_spec.choose_spec.choose_spec.2.2.2.2.2.2.2
theorem law_sp {K : PySem.W.Frag} {mg : Str → Option Value} {f : Fn} {H : Hp} {a : Addr} {ns : List Int} (hl : ns.length ≤ 63) (hS : SqL K H a (ns.map V.int)) (hf : ∃ S, f [.scr ns] [] = .ok (.val (.bool true)) S) : spD K mg 1 f [.ref a] H (fun v _ => v = .bl true) fun _ _ _ => False := by
 obtain ⟨S, e⟩ := hf
 refine ⟨rfl, [.scr ns], [], fun _ => none, [], ⟨rfl, fun i v t e1 e2 => ?_⟩, fun a w h => (nomatch h), ⟨rfl, fun n a k e => (by simp at e), fun a h => absurd rfl h⟩, ?_⟩
 ·cases i with
  | zero =>
   simp only [List.getElem?_cons_zero, Option.some.injEq] at e1 e2
   subst e1 e2
   refine ⟨⟨a, rfl, Nat.le_trans hl (by decide), ?_⟩, rfl⟩
   rcases hS with (h | ⟨ob, h⟩) | h
   ·exact .inr (.inl ⟨h, rfl⟩)
   ·exact .inl ⟨ob, h⟩
   ·exact .inr (.inr h)
  | succ i => simp at e1
 ·rw [e]
  intro v o' c' H' s cs ns' r
  exact (show Rep K o' H' v (.bool true) from r).blV
end BV
namespace BV
open PySem L2

def G7 : List D → Option (List Bool)
 | [] => some []
 | .bool b :: ds => (G7 ds).map (b :: ·)
 | _ :: _ => none
theorem b5k {K : PySem.W.Frag} {o : Gh} {H : Hp} : ∀ {vs : List V} {ds : List D} {bs : List Bool}, RepAll K o H vs ds → G7 ds = some bs → vs = bs.map V.bl
 | _, _, _, .nil, e => by cases e; rfl
 | _, _, _, .cons v d vs ds r ra, e => by
  cases d with
  | bool b =>
   have e' : (G7 ds).map (b :: ·) = some _ := e
   cases q : G7 ds with
   | none => rw [q] at e'; cases e'
   | some cs =>
    rw [q] at e'
    cases e'
    rw [r.blV, b5k ra q]
    rfl
  | _ => cases e
def b5x : List D → Option T
 | [.list ds] => (G7 ds).map fun bs => .val (.bool (bs.all id))
 | _ => none
section
variable {G : Cc}
theorem b5t (hcm : G.hot = none := by rfl) : BF G "all" b5x := ⟨"all", _, by first | exact boot_all | exact PyProof.Rows.boot_all | decide +kernel, fun X W k => by have := cr_all (X := X) (k.calm hcm); rw [k.K] at this; exact this, by
 intro G' W o c ρ S σ H vs ds t Q hK rs r e p
 rw [← hK] at r ⊢
 unfold b5x at e
 split at e
 ·rename_i ds
  obtain ⟨v, rfl, r'⟩ := r.one
  obtain ⟨a, ws, e1, h1, _, z1, ra⟩ := r'.lstV
  subst e1
  cases q : G7 ds with
  | none => rw [q] at e; cases e
  | some bs =>
   rw [q] at e; cases e
   exact ⟨a, bs, rfl, by rw [← b5k ra q]; exact .of h1, f7 (hK ▸ rs) p (.bl _)⟩
 ·cases e⟩
end
end BV
namespace BV
open PySem L2

def c2W (K : PySem.W.Frag) (Ty : String) (r : V → List V → Hp → VK → Prop) (g : D → List D → Option T) : Prop := ∀ (G : Cc) (W : WX) (o : Gh) (c : Cs) (ρ : En) (S : Sto) (σ : L2.St) (H : Hp) (x : V) (d : D) (vs : List V) (ds : List D) (t : T) (Q : VK), G.K = K → RS K o c ρ S σ H →
 RepU K o H x d → RepUs K o H vs ds → g d ds = some t → PostE G W o c ρ σ H (.ok t S) Q → r x vs H Q
structure MD (G : Cc) (Ty : String) (nm : Str) (g : D → List D → Option T) : Prop where
 ex : ∃ (id : String) (r : V → List V → Hp → VK → Prop), PlainAttrs Ty ∧ Slot Ty nm id ∧ typeOf (.builtin id) = pure (.type "method_descriptor") ∧ (∀ X W, G.Ok X W → MtR X id r) ∧ c2W G.K Ty r g
def a9H (Ty : String) : D → Bool
 | .str _ => decide (Ty = "str")
 | .list _ => decide (Ty = "list")
 | _ => false
def b4P (Ty : String) (g : D → List D → Option T) (f : SE) (fs : SU) : SE := fun ρ S => R.d (f ρ S) fun d S1 => if a9H Ty d = true then R.l (fs ρ S1) fun ds S2 => (match g d ds with | some t => .ok t S2 | none => .bad) else .bad
theorem b37 {K : PySem.W.Frag} {o : Gh} {H : Hp} {v : V} {d : D} {Ty : String} (r : RepU K o H v d) (h : a9H Ty d = true) : tyV K Ty v H := by
 cases d with
 | str x =>
  rw [r.strV.1]
  show Ty = "str"
  exact of_decide_eq_true h
 | list xs =>
  obtain ⟨a, vs, e, h1, _⟩ := r.lstV
  rw [e]
  exact .inl ⟨of_decide_eq_true h, vs, .of h1⟩
 | _ => cases h
section
variable {G : Cc} {W : WX} {pos : Pos} {e : Expr} {es : List Expr} {ob : Expr} {f : SE} {fu : SU} {Ty : String} {nm : Str} {g : D → List D → Option T} {ap cp : Pos}
theorem b6z {t : TE} {ta : TA} {r : V → List V → Hp → VK → Prop} (h : URd G W t f) (ha : UAR G W ta fu) (hm : c2W G.K Ty r g) : ER G W (tBM G.K Ty r t ta) (b4P Ty g f fu) := by
 intro σ H ρ S o c Q nt rs p
 refine h.d nt rs p fun d S1 v o1 c1 H1 s1 nt1 rs1 r1 p1 => ?_
 by_cases hr : a9H Ty d = true
 ·simp only [if_pos hr] at p1
  refine ⟨b37 r1 hr, ha.d (Q := fun xs H2 => r v xs H2 Q) nt1 rs1 p1 fun ds S2 vs o2 c2 H2 s2 nt2 rs2 r2 p2 => ?_⟩
  cases e : g d ds with
  | none => rw [e] at p2; exact p2.elim
  | some t => rw [e] at p2; exact hm G W o2 c2 ρ S2 σ H2 v d vs ds t Q rfl rs2 (r1.step rs1.cs.trk s2) r2 e p2
 ·simp only [if_neg hr] at p1; exact p1.elim
theorem b7n (L : MD G Ty nm g) (ho : UV G ob f) (ha : UAV G (e :: es) fu)
  (hbase : ∀ env : PySem.Env, attributeBase ob nm env (eval ob env) = eval ob env := by intro _; rfl)
  (hfew : ∀ env : PySem.Env, ((backTo cp (starEach (e :: es) env)).all (fun x => !x.1) && (backToKw cp (keywordEach [] env)).all (fun x => x.1.isSome) && decide ((e :: es).length + ([] : List Keyword).length + (if ([] : List Keyword).isEmpty then 0 else 1) < 30)) = true := by intro _; rfl)
  (hline : (ap.endLine == cp.line) = true := by rfl) (hs : ∀ env : PySem.Env, starEach (e :: es) env = (false, eval e env) :: starEach es env := by intro _; rfl) (hpl : ∀ env : PySem.Env, (backTo cp (starEach es env)).any (·.1) = false := by intro _; rfl) :
  EV G (.Call (.Attribute ob nm ap) (e :: es) [] cp) (b4P Ty g f fu) := by
 obtain ⟨t, pp, q⟩ := ho
 obtain ⟨ta, pa, qa⟩ := ha
 obtain ⟨id, r, pl, sl, ty, hr, hm⟩ := L.ex
 refine ⟨fun W => tBM G.K Ty r (t W) (ta W), fun X W k => ?_, fun W => b6z (q W) (qa W) hm⟩
 have := pe_bm (X := X) pl sl ty (hr X W k) (pp X W k) (pa X W k) (hbase _) (hfew _) hline (hs _) (hpl _)
 rw [k.K] at this
 exact this
def c0C : D → Option T
 | .list xs => some (.own xs.reverse)
 | _ => none
theorem b6s {a : Expr} {f1 : SE} {k0 : Nat} {p1 p2 p3 : Pos} (h : UV G a f1) : EV G (.Subscript a (.Slice none none (some (.UnaryOp .USub (.Constant (.int 1) k0 p1) p2)) p3) pos) (cUn c0C f1) := by
 obtain ⟨t, pp, q⟩ := h
 refine ⟨fun W => tRevL G.K (t W), fun X W k => by have := pe_revL (k := k0) (p1 := p1) (p2 := p2) (p3 := p3) (pos := pos) (pp X W k); rw [k.K] at this; exact this, fun W σ H ρ S o c Q nt rs ps => ?_⟩
 refine (q W).d nt rs ps fun d S1 v o1 c1 H1 s1 nt1 rs1 r1 p1 => ?_
 cases d with
 | list xs =>
  obtain ⟨a, vs, rfl, h1, _, z1, ra⟩ := r1.lstV
  exact ⟨a, vs, rfl, .of h1, fun p n => D9 rs1 p1 n (by rw [List.length_reverse]; exact z1) ra.reverse⟩
 | _ => exact p1.elim
end
end BV
namespace BV
open PySem L2

section
variable {G : Cc} {W : WX} {pos : Pos} {e : Expr} {es : List Expr} {f : SE}
end
end BV
namespace BV
open PySem PySem.Spec PyProof.Rows L2

section
variable {prog : Program} {w : World}
end
def a3E (xs ys : List D) : List D := (xs.zip ys).map fun p => .tuple [p.1, p.2]
theorem a8B {K : PySem.W.Frag} {o : Gh} {H : Hp} {c : Cs} {T : Addr} {x y : V} {d e : D} (tr : Trk o H) (hT : H T = none) (r1 : Rep K o H x d) (r2 : Rep K o H y e) :
  (∀ a u, H a = some u → upd H T (.tup [x, y]) a = some u) ∧ Rep K o (upd H T (.tup [x, y])) (.ref T) (.tuple [d, e]) := by
 refine ⟨fun a u q => by rw [upd_ne (ne_of_none q hT)]; exact q, .tup T _ _ (.of upd_same) (by show 2 ≤ sizeLine; decide) ?_⟩
 have s : Step d3 o c H o c (upd H T (.tup [x, y])) := Step.laid hT
 exact .cons _ _ _ _ (r1.step tr s) (.cons _ _ _ _ (r2.step tr s) .nil)
section
variable {K : PySem.W.Frag} {o : Gh} {c : Cs} {H : Hp} {a b : Addr} {vs ws : List V} {ds es : List D} {vol : Ow → Prop}
theorem a70 {i : Nat} {d : D} (h : (a3E ds es)[i]? = some d) : ∃ x y, ds[i]? = some x ∧ es[i]? = some y ∧ d = .tuple [x, y] := by
 unfold a3E at h
 rw [List.getElem?_map] at h
 cases e : (ds.zip es)[i]? with
 | none => rw [e] at h; cases h
 | some p =>
  rw [e] at h
  obtain ⟨h1, h2⟩ := List.getElem?_zip_eq_some.mp e
  exact ⟨p.1, p.2, h1, h2, (Option.some.inj h).symm⟩
theorem a7V : (a3E ds es).length = min ds.length es.length := by unfold a3E; rw [List.length_map, List.length_zip]
theorem b6m (tr : Trk o H) (h : H a = some (.lst vs)) (n : ∀ w, o a = some w → ¬ vol w) (z : vs.length ≤ sizeLine) (r : RepAll K o H vs ds) (h' : H b = some (.lst ws)) (n' : ∀ w, o b = some w → ¬ vol w) (r' : RepAll K o H ws es) : b4L vol K (Itz K a b) o c H (a3E ds es) := by
 have hl : (a3E ds es).length = min vs.length ws.length := by rw [a7V, r.length, r'.length]
 refine ⟨by rw [hl]; omega, fun o1 c1 H1 s tr1 i => ?_⟩
 have h1 := s.keep a _ h n
 have h2 := s.keep b _ h' n'
 have r1 := r.step tr s
 have r2 := r'.step tr s
 refine ⟨fun q => ⟨vs, ws, .of h1, .of h2, by omega⟩, fun d e => ?_⟩
 obtain ⟨x, y, e1, e2, rfl⟩ := a70 e
 obtain ⟨v, f1, rv⟩ := r1.get e1
 obtain ⟨w, f2, rw'⟩ := r2.get e2
 refine ⟨⟨vs, ws, v, w, .of h1, .of h2, f1, f2⟩, fun p H2 yy => ?_⟩
 obtain ⟨T, x', y', rfl, hT, rfl, y1, y2⟩ := yy
 have e3 := y1 vs (.of h1)
 have e4 := y2 ws (.of h2)
 rw [f1] at e3
 rw [f2] at e4
 cases e3
 cases e4
 exact a8B (c := c1) tr1 hT rv rw'
theorem b6E (tr : Trk o H) (h : SqT K H a vs) (z : vs.length ≤ sizeLine) (r : RepAll K o H vs ds) (h' : SqT K H b ws) (r' : RepAll K o H ws es) : b4L vol K (RZ.ItzT K a b) o c H (a3E ds es) := by
 have hl : (a3E ds es).length = min vs.length ws.length := by rw [a7V, r.length, r'.length]
 refine ⟨by rw [hl]; omega, fun o1 c1 H1 s tr1 i => ?_⟩
 have h1 : SqT K H1 a vs := SqT.stay tr s h
 have h2 : SqT K H1 b ws := SqT.stay tr s h'
 have r1 := r.step tr s
 have r2 := r'.step tr s
 refine ⟨fun q => ⟨vs, ws, h1, h2, by omega⟩, fun d e => ?_⟩
 obtain ⟨x, y, e1, e2, rfl⟩ := a70 e
 obtain ⟨v, f1, rv⟩ := r1.get e1
 obtain ⟨w, f2, rw'⟩ := r2.get e2
 refine ⟨⟨vs, ws, v, w, h1, h2, f1, f2⟩, fun p H2 yy => ?_⟩
 obtain ⟨T, x', y', rfl, hT, rfl, y1, y2⟩ := yy
 have e3 := y1 vs h1
 have e4 := y2 ws h2
 rw [f1] at e3
 rw [f2] at e4
 cases e3
 cases e4
 exact a8B (c := c1) tr1 hT rv rw'
end
def b7I : List D → Option (List D)
 | [.list xs, .list ys] => some (a3E xs ys)
 | [.tuple xs, .tuple ys] => some (a3E xs ys)
 | _ => none
def DAV (G : Cc) (es : List Expr) (f : SU) : Prop := ∃ t : WX → TA, (∀ X W, G.Ok X W → PA X es (t W)) ∧ ∀ W (σ : L2.St) (H : Hp) (ρ : En) (S : Sto) (o : Gh) (c : Cs) (Q : List V → Hp → Prop), NT o → RS G.K o c ρ S σ H →
 (match f ρ S with
  | .ok ds S' => ∀ vs o' c' H', Step d3 o c H o' c' H' → NT o' → RS G.K o' c' ρ S' σ H' → RepAll G.K o' H' vs ds → Q vs H'
  | .exc e S' => ∀ cls d o' c' H', Step d3 o c H o' c' H' → RS G.K o' c' ρ S' σ H' → NT o' → b3n G.mg H' cls d e → W cls d σ H'
  | .bad => False) → t W σ H Q
section
variable {G : Cc} {pos p tpos : Pos} {e e1 e2 : Expr} {es elts : List Expr} {kk : Nat} {f f1 f2 : SE} {fs : SU} {vol : Ow → Prop}
theorem b6L : DAV G [] w3 := ⟨fun _ => tNil, fun X W k => pa_nil, fun W σ H ρ S o c Q nt rs p => p [] o c H Step.refl nt rs .nil⟩
theorem a9k (h1 : EV G e f) (h2 : DAV G es fs) (hs : ∀ env : PySem.Env, starEach (e :: es) env = (false, eval e env) :: starEach es env := by intro _; rfl) : DAV G (e :: es) (i4 f fs) := by
 obtain ⟨t1, p1, q1⟩ := h1
 obtain ⟨t2, p2, q2⟩ := h2
 refine ⟨fun W => tCons (t1 W) (t2 W), fun X W k => pa_cons (p1 X W k) (p2 X W k) (hs _), fun W σ H ρ S o c Q nt rs p => ?_⟩
 refine q1 W σ H ρ S o c _ nt rs ?_
 unfold i4 at p
 cases e1 : f ρ S with
 | bad => rw [e1] at p; exact p.elim
 | exc e' S' => rw [e1] at p; exact p
 | ok t0 S1 =>
  rw [e1] at p
  cases e2 : asD t0 with
  | none => simp only [e2] at p
  | some d =>
   simp only [e2] at p
   intro v o1 c1 H1 s1 rs1 r1
   have rd := r1.toD rs1.cs.trk e2
   refine q2 W σ H1 ρ S1 (unT o1) c1 _ C2 rs1.untmp ?_
   cases e3 : fs ρ S1 with
   | bad => rw [e3] at p; exact p.elim
   | exc e' S' =>
    rw [e3] at p
    exact fun cls d o' c' H' s => p cls d o' c' H' ((s1.untmp nt).trans s)
   | ok ds S2 =>
    rw [e3] at p
    exact fun vs o2 c2 H2 s2 nt2 rs2 r2 => p (v :: vs) o2 c2 H2 ((s1.untmp nt).trans s2) nt2 rs2 (.cons _ _ _ _ (rd.step rs1.untmp.cs.trk s2) r2)
theorem b2n {ds xs : List D} (h : b7I ds = some xs) : (∃ x y, ds = [.list x, .list y] ∧ xs = a3E x y) ∨ ∃ x y, ds = [.tuple x, .tuple y] ∧ xs = a3E x y := by
 unfold b7I at h
 split at h
 ·cases h; exact .inl ⟨_, _, rfl, rfl⟩
 ·cases h; exact .inr ⟨_, _, rfl, rfl⟩
 ·cases h
theorem b57 (ha : DAV G [e1, e2] fs) (hm : G.mg "zip" = none) (hg : G.sc.names.lookup ("zip" : Str) = some .globalImplicit := by rfl) (hs : ∀ env : PySem.Env, starEach [e1, e2] env = (false, eval e1 env) :: starEach [e2] env := by intro _; rfl)
  (hpl : ∀ env : PySem.Env, (backTo pos (starEach [e2] env)).any (·.1) = false := by intro _; rfl) : IV vol G (.Tuple elts kk tpos) (.Call (.Name "zip" p) [e1, e2] [] pos) (a1H b7I fs) := by
 obtain ⟨t, pp, q⟩ := ha
 refine ⟨fun W => RZ.iZipA G.K (t W), fun X W k => by have := RZ.pi_zipA (pos := pos) (p := p) (tpos := tpos) (elts := elts) (kk := kk) (k.gl hg) (k.m hm) (pp X W k) (hs _) (hpl _); rw [k.K] at this; exact this, fun W σ H ρ S o c Q nt rs ps => ?_⟩
 refine q W σ H ρ S o c _ nt rs ?_
 unfold a1H at ps
 cases e3 : fs ρ S with
 | bad => rw [e3] at ps; exact ps.elim
 | exc e' S' => rw [e3] at ps; exact ps
 | ok ds S1 =>
  rw [e3] at ps
  cases e4 : b7I ds with
  | none => simp only [R.l_ok, e4] at ps; exact ps.elim
  | some xs =>
   simp only [R.l_ok, e4] at ps
   intro vs o1 c1 H1 s1 nt1 rs1 r1
   rcases b2n e4 with ⟨x, y, rfl, rfl⟩ | ⟨x, y, rfl, rfl⟩
   ·cases r1 with
    | cons v d _ _ r1 r2 =>
     cases r2 with
     | cons v' d' _ _ r2 r3 =>
      cases r3
      obtain ⟨a, vs, rfl, h1, h2, h3, h4⟩ := r1.lstV
      obtain ⟨b, ws, rfl, g1, g2, g3, g4⟩ := r2.lstV
      exact ⟨a, b, vs, ws, rfl, .inl ⟨.of h1, .of g1, ps _ o1 c1 H1 s1 nt1 rs1 (b6m rs1.cs.trk h1 (fun w hw => by rw [h2] at hw; cases hw) h3 h4 g1 (fun w hw => by rw [g2] at hw; cases hw) g4)⟩⟩
   ·cases r1 with
    | cons v d _ _ r1 r2 =>
     cases r2 with
     | cons v' d' _ _ r2 r3 =>
      cases r3
      obtain ⟨a, vs, rfl, h1, h3, h4⟩ := r1.tupW
      obtain ⟨b, ws, rfl, g1, g3, g4⟩ := r2.tupW
      exact ⟨a, b, vs, ws, rfl, .inr ⟨h1, g1, ps _ o1 c1 H1 s1 nt1 rs1 (b6E rs1.cs.trk h1 h3 h4 g1 g4)⟩⟩
end
end BV
namespace BV
open PySem L2

section
variable {G : Cc} {W : WX} {o o1 o2 : Gh} {c c1 c2 : Cs} {ρ : En} {σ : L2.St} {H H1 H2 : Hp} {S S1 : Sto} {pos p pos' apos cpos : Pos} {a b e e1 e2 v k : Expr} {es values : List Expr} {keys : List (Option Expr)} {f f1 f2 f3 : SE} {fs : SU} {Q : VK}
def b3K (q : Bool) : SE := fun _ S => .ok (.ownd q []) S
def b46 : TE := fun _ H Q => ∀ p, H p = none → (p == sysModules) = false → Q (.ref p) (upd H p (.ext (tdf 0 p [])))
theorem b4A {X : Cx} {pos : Pos} : PE X (.Dict [] [] pos) b46 := ⟨fun pins s σ H Q I h => by
 refine wpAny_Dict_empty ⟨.ref s.heap.objs.size, _, I.laid (a := s.heap.objs.size) (o := .ext (tdf 0 s.heap.objs.size [])) (t' := s.toks) (fun _ _ q => Heap.get?_push_of_some _ q) (Nat.le_refl _) ?_, rfl, h _ (I.hok.fresh (Nat.le_refl _)) (beq_eq_false_iff_ne.mpr (Ne.symm (Nat.ne_of_lt I.big)))⟩
 exact ⟨⟨_, #[], Heap.get?_push_size _ rfl, ⟨rfl, rfl, rfl⟩, rfl, rfl, List.nodup_nil⟩, ⟨_, Heap.get?_push_size _ rfl⟩, a0q⟩⟩
theorem a33 {q : Bool} {u : HO} {D : Addr} {kvs : List (BV.D × BV.D)} (rs : RS G.K o c ρ S σ H) (h : PostE G W o c ρ σ H (.ok (.ownd q kvs) S) Q) (n : H D = none) (ou : E5 u) (r : b89 G.K (mkO o D .tmp) (upd H D u) D q kvs) : Q (.ref D) (upd H D u) := by
 obtain ⟨ks, vs, ds, h1, h2, h3, h4, h5⟩ := r
 exact h (.ref D) (mkO o D .tmp) c _ (Step.laidO rs.cs.trk n) (rs.laidO n ou) ⟨D, ks, vs, ds, rfl, u9, h1, h2, h3, h4, h5⟩
theorem b14 (q : Bool) : EV G (.Dict [] [] pos) (b3K q) := by
 cases q with
 | false =>
  refine ⟨fun _ => tDNewK, fun X W k => pe_dnewK, fun W σ H ρ S o c Q nt rs p D n => ?_⟩
  exact a33 rs p n trivial ⟨[], [], [], ⟨[], upd_same, rfl, rfl⟩, Nat.zero_le _, rfl, .nil, rfl⟩
 | true =>
  refine ⟨fun _ => b46, fun X W k => b4A, fun W σ H ρ S o c Q nt rs p D n hs => ?_⟩
  exact a33 rs p n trivial ⟨[], [], [], ⟨[], [], ⟨0, upd_same⟩, .nil, hs, rfl, rfl⟩, Nat.zero_le _, rfl, .nil, rfl⟩
end
end BV
namespace BV
open PySem PySem.Spec PyProof.Rows L2

section
variable {X : Cx}
end
section
variable {P : Program} {w : World} {K : PySem.W.Frag} {mg : Str → Option Value} {base : Heap} {CX : CXT}
end

structure b9h (K : PySem.W.Frag) (mg : Str → Option Value) (x : Str) : Prop where
 ex : ∃ C, mg x = some (.ref C) ∧ PySem.W.excIn K C He.veBase "ValueError.__new__" = true ∧ PySem.W.keepIn K (.ref C) = true ∧ PySem.W.subIn K (.ref C) (.type "BaseException") = some true ∧ PySem.W.typeIn K (.ref C) = some (.type "type")
def a2e (x : Str) : SS := fun ρ S => .ex ⟨x, none⟩ ρ S
section
variable {X : Cx}
end
section
variable {G : Cc} {pos p p2 pos' : Pos} {e : Expr} {f : SE} {x m : Str} {j : Nat}
theorem a8a (h : b9h G.K G.mg x) (hcm : G.hot = none := by rfl) (hg : G.sc.names.lookup x = some .globalImplicit := by rfl) (hdb : (x == ("__debug__" : Str)) = false := by decide) : SV G (.Raise (some (.Call (.Name x p) [.Constant (.str m) j p2] [] pos')) none pos) (a2e x) := by
 obtain ⟨C, hm, q, kC, e1, e2⟩ := h.ex
 refine ⟨fun W => fun _ σ H => W (.ref C) none σ H, fun X W k => ?_, fun W σ H ρ S o c D nt rs ps => ?_⟩
 ·exact L2N.ps_raise (k.calm hcm) k.tk.n (L2N.pmk_own PySem.F.excBase_ValueError (by rw [k.K]; exact q) (k.m hm) (by rw [k.K]; exact kC) (raises_own (by rw [k.K]; exact e1) (by rw [k.K]; exact e2)) (k.gl hg) hdb)
 ·exact ps (.ref C) none σ o c H Step.refl nt rs ⟨C, rfl, hm, rfl⟩
end
section
variable {G : Cc} {pos p pos' : Pos} {x fld : Str}
end
end BV
namespace BV
open PySem PySem.Spec PyProof.Rows L2

section
variable {α : Type}
def b6f (le : α → α → Bool) (x : α) : List α → List α
 | [] => [x]
 | y :: r => if le x y then x :: y :: r else y :: b6f le x r
def a6Q (le : α → α → Bool) : List α → List α
 | [] => []
 | x :: r => b6f le x (a6Q le r)
structure b8g (le : α → α → Bool) : Prop where
 total : ∀ a b, le a b = true ∨ le b a = true
 trans : ∀ a b c, le a b = true → le b c = true → le a c = true
 anti : ∀ a b, le a b = true → le b a = true → a = b
variable {le : α → α → Bool}
theorem a01 (x : α) : ∀ l : List α, (b6f le x l).Perm (x :: l)
 | [] => List.Perm.refl _
 | y :: r => by
  unfold b6f
  split
  ·exact List.Perm.refl _
  ·exact (List.Perm.cons y (a01 x r)).trans (List.Perm.swap x y r)
theorem P6 : ∀ l : List α, (a6Q le l).Perm l
 | [] => List.Perm.refl _
 | x :: r => (a01 x _).trans (List.Perm.cons x (P6 r))
theorem b1Y (L : b8g le) (x : α) : ∀ l : List α, l.Pairwise (fun a b => le a b = true) → (b6f le x l).Pairwise (fun a b => le a b = true)
 | [], _ => by simp [b6f]
 | y :: r, h => by
  unfold b6f
  have h' := List.pairwise_cons.mp h
  split
  ·rename_i e
   refine List.pairwise_cons.mpr ⟨fun z hz => ?_, h⟩
   rcases List.mem_cons.mp hz with q | q
   ·rw [q]; exact e
   ·exact L.trans _ _ _ e (h'.1 z q)
  ·rename_i e
   have e2 : le y x = true := (L.total x y).resolve_left e
   refine List.pairwise_cons.mpr ⟨fun z hz => ?_, b1Y L x r h'.2⟩
   rcases List.mem_cons.mp ((a01 x r).mem_iff.mp hz) with q | q
   ·rw [q]; exact e2
   ·exact h'.1 z q
theorem a9i (L : b8g le) : ∀ l : List α, (a6Q le l).Pairwise (fun a b => le a b = true)
 | [] => List.Pairwise.nil
 | x :: r => b1Y L x _ (a9i L r)
theorem a7y (L : b8g le) : ∀ {xs ys : List α}, xs.Perm ys → xs.Pairwise (fun a b => le a b = true) → ys.Pairwise (fun a b => le a b = true) → xs = ys
 | [], ys, p, _, _ => (List.nil_perm.mp p).symm
 | x :: xs, [], p, _, _ => by have := p.length_eq; simp at this
 | x :: xs, y :: ys, p, h1, h2 => by
  have h1' := List.pairwise_cons.mp h1
  have h2' := List.pairwise_cons.mp h2
  have e : x = y := by
   have a := p.mem_iff.mp (List.mem_cons_self (a := x))
   have b := p.mem_iff.mpr (List.mem_cons_self (a := y))
   rcases List.mem_cons.mp a with q | q
   ·exact q
   ·rcases List.mem_cons.mp b with r | r
    ·exact r.symm
    ·exact L.anti _ _ (h1'.1 y r) (h2'.1 x q)
  subst e
  rw [a7y L (List.Perm.cons_inv p) h1'.2 h2'.2]
theorem b0z (L : b8g le) {xs ys : List α} (p : ys.Perm xs) (h : ys.Pairwise (fun a b => le a b = true)) : ys = a6Q le xs := a7y L (p.trans (P6 xs).symm) h (a9i L xs)
theorem b2J (l : List α) : (a6Q le l).length = l.length := (P6 l).length_eq
theorem sortB_mem {l : List α} {x : α} : x ∈ a6Q le l ↔ x ∈ l := (P6 l).mem_iff
end
theorem a5W {α β : Type} : ∀ {xs : List α} {ys : List β}, xs.length = ys.length → (xs.zip ys).map (·.1) = xs
 | [], [], _ => rfl
 | [], _ :: _, h => by cases h
 | _ :: _, [], h => by cases h
 | x :: xs, y :: ys, h => by
  rw [List.zip_cons_cons, List.map_cons, a5W (by simpa using h)]
section
variable {G : Cc}
end
end BV
namespace BV
open PySem PySem.Spec PyProof.Rows L2
open He (ba eqO eqO_ok ga ma)

theorem b7l {K : PySem.W.Frag} {h : Heap} {mg : Str → Option Value} {x : Str} (X : K.In h) (Gn : h.Ns mainGlobals mg) (c1 : (He.Fa.glo x).ok K = true) (c2 : (He.Fa.exc x).ok K = true) : b9h K mg x := ⟨⟨_, He.glo_ok X Gn c1, He.exc_ok c2⟩⟩
def frB (n : Nat) (g : Addr → Option Obj) : PySem.W.Frag := He.frT g (cStatics :: He.asD g n)
abbrev AlB : Type := He.AlT × Bool
def c1A (n : Nat) (fa : List He.Fa) (fn : List He.DefD) (ts : List He.Tab) (ex : List (PySem.W.Frag → Bool)) (g : Addr → Option Obj) : AlB := (He.obsT fa fn ts (frB n g), ex.all fun e => e (frB n g))
def c4Q (fn : List He.DefD) (ts : List He.Tab) (w : World) : AlB := (He.valT fn ts w, true)
structure SaysB (fa : List He.Fa) (fn : List He.DefD) (ts : List He.Tab) (ex : List (PySem.W.Frag → Bool)) (w : World) (K : PySem.W.Frag) : Prop where
 t : He.SaysT fa fn ts w K
 more : (ex.all fun e => e K) = true
def b8x (n : Nat) (fa : List He.Fa) (fn : List He.DefD) (ts : List He.Tab) (ex : List (PySem.W.Frag → Bool)) : PySem.W.Hook where
 α := AlB
 obs := fun s => c1A n fa fn ts ex s.heap.get?
 val := fun w => c4Q fn ts w
 says := fun w h => ∃ K : PySem.W.Frag, K.In h ∧ SaysB fa fn ts ex w K
 of := fun _ _ e => ⟨_, He.frT_in, ⟨congrArg (fun z : AlB => z.1) e, congrArg (fun z : AlB => z.2) e⟩⟩
 keeps := fun _ _ _ ⟨K, i, c⟩ k => ⟨K, PySem.W.Frag.In.keeps i k, c⟩
theorem b51 {n : Nat} {fa : List He.Fa} {fn : List He.DefD} {ts : List He.Tab} {ex : List (PySem.W.Frag → Bool)} {g : Addr → Option Obj} {s : Shared} (h : ∀ a, g a = s.heap.get? a) : c1A n fa fn ts ex g = (b8x n fa fn ts ex).obs s := by
 have e : g = s.heap.get? := funext h
 rw [e]
 rfl
section
variable {fa : List He.Fa} {fn : List He.DefD} {ts : List He.Tab} {ex : List (PySem.W.Frag → Bool)} {w : World} {K : PySem.W.Frag}
theorem SaysB.fact (c : SaysB fa fn ts ex w K) (i : Nat) {f : He.Fa} (h : fa[i]? = some f := by rfl) : f.ok K = true := c.t.d.fact i h
theorem SaysB.def_ (c : SaysB fa fn ts ex w K) (i : Nat) {d : He.DefD} (h : fn[i]? = some d := by rfl) : ∃ fd, FunD K d.name d.qual d.params d.body d.scope (d.dvs K) (d.kws K) (He.fAd K d.at_) fd := c.t.d.def_ i h
theorem SaysB.more_ (c : SaysB fa fn ts ex w K) (i : Nat) {e : PySem.W.Frag → Bool} (h : ex[i]? = some e := by rfl) : e K = true := List.all_eq_true.mp c.more e (List.mem_of_getElem? h)
end
end BV
namespace BV
open PySem PySem.Spec PyProof.Rows L2
open He (ba eqO eqO_ok ga)

def excAll : List Str := ["NoHoles", "NoCase", "NoName", "NoLayout", "Tight", "Loose", "NoLines", "TooMany", "NoEnd", "NoMold", "NoLine", "NoPaper", "NoText", "NoRow", "NoStep", "CastError"]
def C5 (x : Str) : Bool := decide (x ∈ excAll)
def d9 (x c : Str) : Bool := decide (x = c) || (decide (c = "CastError") || decide (c = "ValueError"))
def a2j (K : PySem.W.Frag) (p : Addr → Str → Bool) : Bool := excAll.all fun x => eqO (PySem.W.nsIn K mainGlobals x) (some none) || (eqO (PySem.W.nsIn K mainGlobals x) (some (some (.ref (ga K x)))) && p (ga K x) x)
section
variable {K : PySem.W.Frag} {h : Heap} {mg : Str → Option Value}
theorem b2o {p : Addr → Str → Bool} (X : K.In h) (Gn : h.Ns mainGlobals mg) (c : a2j K p = true) {x : Str} {D : Addr} (hx : C5 x = true) (hm : mg x = some (.ref D)) : PySem.W.nsIn K mainGlobals x = some (some (.ref D)) ∧ p D x = true := by
 have := List.all_eq_true.mp c x (of_decide_eq_true hx)
 rw [Bool.or_eq_true] at this
 rcases this with e | e
 ·have := PySem.W.mg_none_of X Gn (eqO_ok e)
  rw [hm] at this
  cases this
 ·obtain ⟨e1, e2⟩ := ba e
  have e3 := eqO_ok e1
  have := PySem.W.mg_of X Gn e3
  rw [hm] at this
  cases this
  exact ⟨e3, e2⟩
theorem a1n {p : Addr → Str → Bool} (c : a2j K p = true) {x : Str} {D : Addr} (hx : C5 x = true) (hm : PySem.W.nsIn K mainGlobals x = some (some (.ref D))) : p D x = true := by
 have := List.all_eq_true.mp c x (of_decide_eq_true hx)
 rw [Bool.or_eq_true] at this
 rcases this with e | e
 ·have e3 := eqO_ok e
  rw [hm] at e3
  cases e3
 ·obtain ⟨e1, e2⟩ := ba e
  have e3 := eqO_ok e1
  rw [hm] at e3
  simp only [Option.some.injEq, Value.ref.injEq] at e3
  rw [e3]
  exact e2
end
structure c0I (K : PySem.W.Frag) (mg : Str → Option Value) (c : Str) : Prop where
 ex : ∃ C, mg c = some (.ref C) ∧ ∀ x D, C5 x = true → mg x = some (.ref D) → PySem.W.nsIn K mainGlobals x = some (some (.ref D)) ∧ PySem.W.exmOne K (.ref D) (.ref C) = some (d9 x c)
def b1O (K : PySem.W.Frag) (c : Str) : Bool := eqO (PySem.W.nsIn K mainGlobals c) (some (some (.ref (ga K c)))) && a2j K fun D x => decide (PySem.W.exmOne K (.ref D) (.ref (ga K c)) = some (d9 x c))
theorem b6q {K : PySem.W.Frag} {h : Heap} {mg : Str → Option Value} {c : Str} (X : K.In h) (Gn : h.Ns mainGlobals mg) (hc : b1O K c = true) : c0I K mg c := by
 obtain ⟨h1, h2⟩ := ba hc
 refine ⟨ga K c, PySem.W.mg_of X Gn (eqO_ok h1), fun x D hx hm => ?_⟩
 obtain ⟨e1, e2⟩ := b2o X Gn h2 hx hm
 exact ⟨e1, of_decide_eq_true e2⟩
abbrev Cc.suite (G : Cc) (hx : K5) : Cc := { G with top := false, hot := some hx, raw := false }
abbrev Cc.tr (G : Cc) : Cc := { G with raw := false }
theorem c3M {G : Cc} {X : Cx} {W W' : WX} {pn : List (Addr × Obj)} {xe : Value → Shared → Prop} (k : G.Ok X W) (hcm : G.hot = none) (tk : Tk G.cn (X.tr pn xe) W') (po : PassesOwn (model X.prog X.w) X.A X.env xe) : G.tr.Ok (X.tr pn xe) W' :=
 ⟨k.P, k.w, k.K, k.mg, k.base, k.N, k.sc, k.fn, k.calm, k.room, tk, po, k.hd, k.top, fun h e => (by rw [show G.tr.hot = G.hot from rfl, hcm] at e; cases e), fun h => (nomatch h), k.cod⟩
theorem b7B {G : Cc} {X : Cx} {W : WX} {a C : Addr} {oe : Obj} {d : Option Addr} {pn : List (Addr × Obj)} (k : G.Ok X W) (hz : Zc (.ref C) d oe) (hf : ∃ vs, oe.data = .fields vs) : (G.suite ⟨a, C, d⟩).Ok (X.suite a ((a, oe) :: pn)) (fun _ _ _ _ => False) :=
 ⟨k.P, k.w, k.K, k.mg, k.base, k.N, k.sc, k.fn, fun h => (nomatch h), ⟨k.room.dp, k.room.un⟩, b47, PassesOwn.never, fun h => (nomatch h), fun h => (nomatch h), fun h e => (by
  cases e
  obtain ⟨vs, hv⟩ := hf
  exact ⟨oe, ⟨rfl, vs, hv⟩, List.mem_cons_self, hz, vs, hv⟩), fun h => (nomatch h), k.cod⟩
section
variable {G : Cc} {pos : Pos}
end
end BV
namespace BV
open PySem PySem.Spec PyProof.Rows L2

section
variable {G : Cc}
end
end BV
namespace BV
open PySem L2

section
variable {K : PySem.W.Frag} {G : Cc} {W : WX} {o o1 : Gh} {c c1 : Cs} {ρ : En} {S : Sto} {σ : L2.St} {H H1 : Hp} {pos : Pos} {a : Addr} {u : HO} {w : Ow} {v : V} {t : T}
end
section
variable {G : Cc} {pos : Pos}
end
end BV
namespace BV
open PySem PySem.Spec PyProof.Rows L2

def b8H (z : Str) (n : Nat) : Str := ⟨((List.replicate n z.cps.toList).flatten).toArray⟩
theorem b36 (z : Str) (n : Nat) : (b8H z n).cps.toList = (List.replicate n z.cps.toList).flatten := rfl
theorem b4Q (z : Str) (n : Nat) : (b8H z n).length = z.length * n := by
 show (((List.replicate n z.cps.toList).flatten).toArray).size = z.cps.size * n
 simp [Nat.mul_comm]
end BV
namespace BV
open PySem PySem.Spec PyProof.Rows L2
end BV
namespace BV
open PySem PySem.Spec PyProof.Rows L2
section
variable {G : Cc} {pos : Pos}
def b4F : D → D → Option T
 | .bool c, .bool d => some (.val (.bool (!(c == d))))
 | _, _ => none
theorem b6K {X : Cx} : OpR X (compareOp .IsNot) (fun x y H Q => ∃ c d, x = .bl c ∧ y = .bl d ∧ Q (.bl (!(c == d))) H) := by
 intro pins s σ H x y v u Q I rx ry h
 obtain ⟨c, d, rfl, rfl, q⟩ := h
 cases rx
 cases ry
 refine wpAny_isNot_plain (by cases c <;> cases d <;> rfl) ?_
 have e : (Value.bool c == Value.bool d) = (c == d) := by cases c <;> cases d <;> rfl
 rw [e]
 exact fin_bl I q rfl
theorem b55 : BV.CR G .IsNot b4F := ⟨_, fun X W k => b6K, by
 intro G' W o c ρ S σ H x y a b t Q hK rs r1 r2 e p
 unfold b4F at e
 split at e
 ·cases e
  exact ⟨_, _, r1.blV, r2.blV, f7 (hK ▸ rs) p (.bl _)⟩
 ·cases e⟩
end
end BV
namespace BV
open PySem PySem.Spec PyProof.Rows L2
def a9V (i : Nat) (g : Int → Int → Int) (fi fe : SE) : SS := fun ρ S => match ρ[i]? with
 | some (some (.own xs)) => sD fi (fun di ρ S => match di with
  | .int j => (match ixN xs.length j with
   | some k => (match xs[k]? with
    | some (.int a) => sD fe (fun de ρ S => match de with
     | .int b => .nx (ρ.set i (some (.own (xs.set k (.int (g a b)))))) S
     | _ => .bad) ρ S
    | _ => .bad)
   | none => .bad)
  | _ => .bad) ρ S
 | _ => .bad
section
variable {G : Cc} {x : Str} {xp tp pos : Pos} {b e : Expr} {f1 f2 : SE}
theorem b4O {X : Cx} : PGet X (rIxL X.K) := by
 intro pins s σ H x y v u Q I rx ry h
 obtain ⟨p, xs, i, z, rfl, rfl, hq, he, q⟩ := h
 cases rx
 obtain ⟨t, rfl⟩ := ry
 obtain ⟨its, r, pl, hz⟩ := I.list hq
 obtain ⟨j, h1, h2, h3, h4, h5⟩ := atI_get he
 obtain ⟨w, ew, rw'⟩ := r.get h2
 have hl := r.length
 have hn := line63
 have fin : EP X pins σ Q w s := ⟨z, H, I, rw', q⟩
 by_cases h0 : 0 ≤ i
 ·have hj : i.toNat = j := by
   rw [seqIndex_of h0 h5] at h1
   exact Option.some.inj h1
  exact wpAny_getItem_list pl.isList h0 (by omega) (by rw [hj]; simpa using ew) fin
 ·have hj : (i + (its.toArray.size : Int)).toNat = j := by
   rw [seqIndex_neg (by omega) h4] at h1
   rw [List.size_toArray, ← hl]
   exact Option.some.inj h1
  exact wpAny_getItem_list_neg pl.isList (by omega) (by rw [List.size_toArray] <;> omega) (by omega) (by rw [hj]; simpa using ew) fin
theorem b3V (i : Nat) {op : Operator} {g : Int → Int → Int} (ho : ∀ X, PIp X op (ipI g)) (h1 : UV G b f1) (h2 : UV G e f2) (hN : G.N[i]? = some x := by rfl) (hv : Vis G.sc x := by first | exact Or.inl rfl | exact Or.inr (Or.inl rfl) | exact Or.inr (Or.inr rfl)) (hd : (x == ("__debug__" : Str)) = false := by decide) (hcd : (x == ("__classdict__" : Str)) = false := by decide)
  (ha : ∀ ov iv new, augStore b ov iv new = (do holding [new, ov, iv] (setItem ov iv new); release [new, ov, iv] []; pure .next) := by intros; rfl) : SV G (.AugAssign (.Subscript (.Name x xp) b tp) op e pos) (a9V i g f1 f2) := by
 obtain ⟨t1, p1, q1⟩ := h1
 obtain ⟨t2, p2, q2⟩ := h2
 refine ⟨fun W => tAugS (tVar i) (t1 W) (t2 W) (rIxL G.K) (ipI g) (a4a G.K), fun X W k => ?_, fun W σ H ρ S o c D nt rs ps => ?_⟩
 ·have hs := b1G (X := X) (by have := k.units; omega)
  have hg := b4O (X := X)
  rw [k.K] at hs hg
  exact ps_augS (pe_var (pos := xp) (k.at hN) (k.vis hv) hd hcd) (p1 X W k) hg (p2 X W k) (ho X) hs ha
 ·unfold a9V at ps
  split at ps
  ·rename_i xs e2
   obtain ⟨a, vs, ev, hO, hH, hz, ra⟩ := rs.ownAt e2
   refine ⟨_, ev, (q1 W).s nt rs ps fun di S3 iv o3 c3 H3 s3 nt3 rs3 ri p3 => ?_⟩
   obtain ⟨a', vs', ev', ho', hH', hz', ra'⟩ := rs3.ownAt e2
   rw [ev] at ev'
   cases ev'
   cases di with
   | int j =>
    cases e4 : ixN xs.length j with
    | none => simp only [e4] at p3; exact p3.elim
    | some kk =>
     simp only [e4] at p3
     cases e5 : xs[kk]? with
     | none => simp only [e5] at p3; exact p3.elim
     | some d =>
      simp only [e5] at p3
      cases d with
      | int av =>
       simp only at p3
       obtain ⟨w, hw, rw'⟩ := ra'.get e5
       have hwi : w = V.int av := by
        have : Rep G.K o3 H3 w (.int av) := rw'
        cases this
        rfl
       subst hwi
       refine ⟨a, vs', j, V.int av, rfl, ri.intV, .inl (.inl hH'), ?_, ?_⟩
       ·unfold atI
        rw [ra'.length, e4]
        exact hw
       refine (q2 W).s nt3 rs3 p3 fun de S5 y o5 c5 H5 s5 nt5 rs5 r5 p5 => ?_
       obtain ⟨a', vs5, ev', ho5, hH5, hz5, ra5⟩ := rs5.ownAt e2
       rw [ev] at ev'
       cases ev'
       cases de with
       | int bv =>
        refine ⟨av, bv, rfl, r5.intV, ?_⟩
        refine .inl ⟨a, vs5, j, kk, rfl, ri.intV, hH5, by rw [ra5.length]; exact e4, ?_⟩
        obtain ⟨s6, rs6⟩ := a0u (d := .int (g av bv)) (v := V.int (g av bv)) (xs := xs) rs5 ho5 ev (RepAll.set (.int _) kk ra5) (by rw [List.length_set]; exact hz5)
        exact p5 σ o5 c5 _ s6 nt5 rs6
       | _ => exact p5.elim
      | _ => exact p3.elim
   | _ => exact p3.elim
  ·exact ps.elim
theorem b6Q (i : Nat) (h1 : UV G b f1) (h2 : UV G e f2) (hN : G.N[i]? = some x := by rfl) (hv : Vis G.sc x := by first | exact Or.inl rfl | exact Or.inr (Or.inl rfl) | exact Or.inr (Or.inr rfl)) (hd : (x == ("__debug__" : Str)) = false := by decide) (hcd : (x == ("__classdict__" : Str)) = false := by decide)
  (ha : ∀ ov iv new, augStore b ov iv new = (do holding [new, ov, iv] (setItem ov iv new); release [new, ov, iv] []; pure .next) := by intros; rfl) : SV G (.AugAssign (.Subscript (.Name x xp) b tp) .Add e pos) (a9V i (fun a b => a + b) f1 f2) := b3V i (fun X => ip_add) h1 h2 hN hv hd hcd ha
end
@[simp] theorem c3r {i : Nat} {g : Int → Int → Int} {fi fe : SE} {ρ : En} {S : Sto} : a9V i g fi fe ρ S = (match ρ[i]? with
 | some (some (.own xs)) => sD fi (fun di ρ S => match di with
  | .int j => (match ixN xs.length j with
   | some k => (match xs[k]? with
    | some (.int a) => sD fe (fun de ρ S => match de with
     | .int b => .nx (ρ.set i (some (.own (xs.set k (.int (g a b)))))) S
     | _ => .bad) ρ S
    | _ => .bad)
   | none => .bad)
  | _ => .bad) ρ S
 | _ => .bad) := rfl
end BV
namespace BV
open PySem PySem.Spec PyProof.Rows L2
section
variable {X : Cx} {pos : Pos} {ke ve : Expr} {kt vt : TE}
theorem b3g {A : Around} {pins : List (Addr × Obj)} {σ : L2.St} {H : Hp} {s : Shared} {a b : Addr} {xs : List (List Int × Addr × Value)} {kvs : List (List Int × V)} {k : List Int} {v : V} {r : Value} {E : Value → Shared → Prop} {Q : Unit → Shared → Prop} (hu : A.units + 1 < cLine) (I : Inv X pins σ H s) (e : HX H a xs) (q : KX X.K H kvs xs) (hl : xs.length ≤ sizeLine) (eb : SqT X.K H b (k.map V.int)) (rv : RelV v r)
  (h : ∀ ep s', Inv X pins σ (upd H a (.ext (tdf ep a (storedH xs k b r)))) s' → Q () s') : wpAny (model X.prog X.w) A (dictSet a (.ref b) r) Q E s := by
 refine wpAny_dictSet_heap (hsz := hl) (show A.units < cLine by omega) (b8k I eb) (dX I e q) fun h' dd' hs => ?_
 obtain ⟨o, es, ep, hq, h2, h3, h4, _, h5⟩ := dd'
 exact h ep _ (d_write I (by obtain ⟨_, e⟩ := e; rw [e]; exact True.intro) hs ⟨o, hq⟩ ⟨⟨o, es, hq, h2, h3, h4, h5⟩, ⟨o, hq⟩, a0q⟩)
def b2O (K : PySem.W.Frag) (kt vt : TE) : TE := fun σ H Q => ∀ p, H p = none → (p == sysModules) = false → kt σ (upd H p (.ext (tdf 0 p []))) fun kv H1 => vt σ H1 fun vv H2 => b7v K (.ref p) kv vv H2 fun H3 => Q (.ref p) H3
theorem b1S (hu : X.A.units + 1 < cLine) (hk : PE X ke kt) (hv : PE X ve vt) : PE X (.Dict [some ke] [ve] pos) (b2O X.K kt vt) := by
 refine ⟨fun pins s σ H Q I h => ?_⟩
 have hn := I.hok.fresh (Nat.le_refl s.heap.objs.size)
 have nm : (s.heap.objs.size == sysModules) = false := beq_eq_false_iff_ne.mpr (Ne.symm (Nat.ne_of_lt I.big))
 have I1 := I.laid (a := s.heap.objs.size) (o := .ext (tdf 0 s.heap.objs.size [])) (h' := s.heap.push { cls := .type "dict", data := .dict #[] }) (t' := s.toks) (fun _ _ q => Heap.get?_push_of_some _ q) (Nat.le_refl _) ⟨⟨_, #[], Heap.get?_push_size _ rfl, ⟨rfl, rfl, rfl⟩, rfl, rfl, List.nodup_nil⟩, ⟨_, Heap.get?_push_size _ rfl⟩, a0q⟩
 refine wpAny_Dict_any rfl rfl (by simp) (by simp) ?_
 refine pairTrees_cons_walk (thn (hk.run pins _ σ _ _ I1 (h _ hn nm)) fun kv s1 ⟨x1, H1, I2, r1, q1⟩ => thn (hv.run pins s1 σ H1 _ I2 q1) fun vv s2 ⟨x2, H2, I3, r2, q2⟩ => pairTrees_nil_walk ?_)
 obtain ⟨a, kvs, xs, b, k, ea, e, kx, hl, eb, sb, q⟩ := q2
 cases ea
 cases eb
 cases (show kv = Value.ref b from r1)
 show wpAny (model X.prog X.w) X.A (storeAll s.heap.objs.size [(.ref b, vv)]) _ _ _
 unfold storeAll
 rw [List.forIn_cons]
 refine wpAny_bind (wpAny_bind (b3g hu I3 e kx hl sb r2 fun ep s' I' => wpAny_pure ?_))
 show wpAny _ _ (forIn [] _ _) _ _ _
 rw [List.forIn_nil]
 exact wpAny_pure ⟨.ref s.heap.objs.size, _, I', rfl, q ep vv r2⟩
end
def a3g (f1 f2 : SE) : SE := fun ρ S => R.d (f1 ρ S) fun kd S1 => R.d (f2 ρ S1) fun d S2 => match a5G true [] kd d with
 | some kvs => .ok (.ownd true kvs) S2
 | none => .bad
@[simp] theorem c0A {f1 f2 : SE} {ρ : En} {S : Sto} : a3g f1 f2 ρ S = R.d (f1 ρ S) fun kd S1 => R.d (f2 ρ S1) fun d S2 => match a5G true [] kd d with
 | some kvs => .ok (.ownd true kvs) S2
 | none => .bad := rfl
section
variable {G : Cc} {pos : Pos} {ke ve : Expr} {f1 f2 : SE}
theorem b28 (h1 : EV G ke f1) (h2 : EV G ve f2) : EV G (.Dict [some ke] [ve] pos) (a3g f1 f2) := by
 obtain ⟨t1, p1, q1⟩ := h1
 obtain ⟨t2, p2, q2⟩ := h2
 refine ⟨fun W => b2O G.K (t1 W) (t2 W), fun X W k => by have := b1S (pos := pos) (by have := k.units; omega) (p1 X W k) (p2 X W k); rw [k.K] at this; exact this, fun W σ H ρ S o c Q nt rs p D hD hs => ?_⟩
 have nt1 : NT (mkO o D .prot) := fun a z => by
  by_cases q : a = D
  ·subst q; rw [u9] at z; cases z
  ·rw [B8 q] at z; exact nt a z
 have s0 : Step d3 o c H (mkO o D .prot) c (upd H D (.ext (tdf 0 D []))) := Step.laidO rs.cs.trk hD
 have rs0 : RS G.K (mkO o D .prot) c ρ S σ (upd H D (.ext (tdf 0 D []))) := rs.laidO hD trivial
 have nD : o D = none := rs.cs.trk.new hD
 refine q1 W σ _ ρ S (mkO o D .prot) c _ nt1 rs0 ?_
 unfold a3g at p
 have p0 := PostE.step s0 p
 cases e1 : f1 ρ S with
 | bad => rw [e1] at p0; exact p0
 | exc e' S' => rw [e1] at p0; exact p0
 | ok t0 S1 =>
  rw [e1] at p p0
  cases e2 : asD t0 with
  | none => rw [R.d_okn e2] at p; exact p.elim
  | some kd =>
   rw [R.d_oks e2] at p p0
   intro kv o1 c1 H1 s1 rs1 r1
   have rd := r1.toD rs1.cs.trk e2
   refine q2 W σ H1 ρ S1 (unT o1) c1 _ C2 rs1.untmp ?_
   have s01 := s0.trans (s1.untmp nt1)
   cases e3 : f2 ρ S1 with
   | bad => rw [e3] at p; exact p.elim
   | exc e' S' =>
    rw [e3] at p
    exact PostE.step s01 p
   | ok t1' S2 =>
    rw [e3] at p
    cases e4 : asD t1' with
    | none => rw [R.d_okn e4] at p; exact p.elim
    | some d =>
     rw [R.d_oks e4] at p
     cases e5 : a5G true [] kd d with
     | none => simp only [e5] at p; exact p.elim
     | some kvs =>
      simp only [e5] at p
      intro vv o2 c2 H2 s2 rs2 r2
      have rv := r2.toD rs2.cs.trk e4
      have nt2 : NT (unT o1) := C2
      have s12 := (s1.untmp nt1).trans (s2.untmp nt2)
      have sA := s0.trans s12
      have rs3 := rs2.untmp
      have sA' : Step d3 o c H (unT o2) c2 H2 := s0.trans ((s1.untmp nt1).trans (s2.untmp nt2))
      have st2 : Step B4 o2 c2 H2 (unT o2) c2 H2 := ⟨fun a u e _ => e, fun a w e n => f6 e (by cases w <;> first | rfl | exact absurd trivial n), fun a e n => absurd (m9 e) n, List.prefix_refl c2⟩
      have rv3 := rv
      have rk3 := rd.step rs1.untmp.cs.trk (s2.untmp nt2)
      have hp2 : unT o2 D = some .prot := s12.own D _ u9 (fun z => z)
      have hD2 : H2 D = some (.ext (tdf 0 D [])) := s12.keep D _ upd_same (fun w hw => by rw [u9] at hw; cases hw; exact fun z => z)
      have dh : b89 G.K (unT o2) H2 D true [] := ⟨[], [], [], ⟨[], [], ⟨0, hD2⟩, .nil, hs, rfl, rfl⟩, Nat.zero_le _, rfl, .nil, rfl⟩
      have hset := a2K dh (by rw [hp2]; simp) rs3.cs.trk (RepU.of _ _ rk3) rv3 e5 (fun H3 => Q (.ref D) H3) (fun u ou ⟨ks, vs, ds, h2, h3, h4, h5, h6⟩ => by
       have sup : ∀ a, unT o2 a = none → N4 (unT o2) D a = none := fun a e => by
        have : a ≠ D := fun z => by rw [z, hp2] at e; cases e
        unfold N4
        rw [B8 this]
        exact e
       have trk' : Trk (unT o2) (upd H2 D u) := fun a n => by
        by_cases z : a = D
        ·rw [z]; exact ⟨_, upd_same, ou⟩
        ·obtain ⟨u', hu, ou'⟩ := rs3.cs.trk a n
         exact ⟨u', by rw [upd_ne z]; exact hu, ou'⟩
       have kw : Kept (unT o2) H2 (N4 (unT o2) D) (upd H2 D u) := fun a w e n => by
        have : a ≠ D := fun z => by rw [z, hp2] at n; cases n
        exact ⟨by rw [upd_ne this]; exact e, sup a n⟩
       have st : Step d3 o c H (N4 (unT o2) D) c2 (upd H2 D u) := ⟨fun a w e n => by
         rw [upd_ne (ne_of_none e hD)]
         exact sA'.keep a w e n, fun a w e n => by
         have : a ≠ D := fun z => by rw [z, nD] at e; cases e
         unfold N4
         rw [B8 this]
         exact sA'.own a w e n, fun a e n => by
         by_cases z : a = D
         ·rw [z]; exact hD
         ·unfold N4 at n
          rw [B8 z] at n
          exact sA'.new a e n, sA'.pre⟩
       have cst : CS G.K (N4 (unT o2) D) c2 S2 (upd H2 D u) := rs3.cs.move kw (fun a n e => by
         have : a ≠ D := fun z => by rw [z, hp2] at e; cases e
         exact ⟨by unfold N4; rw [B8 this]; exact e, fun u hu => by rw [upd_ne this]; exact hu⟩) fun a n => by
         by_cases z : a = D
         ·rw [z]; exact ⟨_, upd_same, ou⟩
         ·unfold N4 at n
          rw [B8 z] at n
          obtain ⟨u', hu, ou'⟩ := rs3.cs.trk a n
          exact ⟨u', by rw [upd_ne z]; exact hu, ou'⟩
       exact p (.ref D) (N4 (unT o2) D) c2 _ st (rs.step st cst) ⟨D, ks, vs, ds, rfl, u9, h2, h3, h4, h5.kept trk' (fun a w e n => ⟨e, sup a n⟩), h6⟩)
      rcases hset with h | h | h
      ·obtain ⟨a, vs, j, k, ea, _, hH, _⟩ := h
       cases ea
       rw [hD2] at hH
       cases hH
      ·exfalso
       obtain ⟨a, es, ea, h, _⟩ := h
       cases ea
       rcases h with ⟨_, _, hH, _⟩ | ⟨_, _, _, hH, _⟩
       ·rw [hD2] at hH
        cases hH
       ·rw [hD2] at hH
        cases hH
      ·exact h
end
end BV
namespace BV
open PySem L2
section
variable {G : Cc} {W : WX} {o o1 : Gh} {c c1 : Cs} {ρ : En} {σ : L2.St} {H H1 : Hp} {S S1 : Sto} {pos : Pos} {e : Expr} {es : List Expr} {fs : SA} {m : List BV.D → List BV.D → Option (List BV.D × BV.D)}
end
end BV
namespace BV
open PySem L2
def a65 (i : Nat) (fa : SE) (m : List BV.D → List BV.D → Option (List BV.D × BV.D)) (fs : SU) : SS := fun ρ S => match ρ[i]? with
 | some (some (.own2 xss)) => sD fa (fun da ρ S => match da with
  | .int j => (match ixN xss.length j with
   | some k => (match xss[k]? with
    | some xs => sA fs (fun ds ρ S => match m xs ds with
     | some (xs', _) => .nx (ρ.set i (some (.own2 (xss.set k xs')))) S
     | none => .bad) ρ S
    | none => .bad)
   | none => .bad)
  | _ => .bad) ρ S
 | _ => .bad
section
variable {G : Cc} {W : WX} {o o1 : Gh} {c c1 : Cs} {ρ : En} {σ : L2.St} {H H1 : Hp} {S S1 : Sto} {pos : Pos} {e : Expr} {es : List Expr} {fs : SU} {m : List BV.D → List BV.D → Option (List BV.D × BV.D)}
theorem a7k (i : Nat) {a : Expr} {f2 : SE} {x nm : Str} {xp up ap cp : Pos} (L : LMU G nm m) (h2 : UV G a f2) (h : UAV G (e :: es) fs) (hs2 : PlainIx a := by exact fun _ _ => rfl) (hN : G.N[i]? = some x := by rfl) (hv : Vis G.sc x := by first | exact Or.inl rfl | exact Or.inr (Or.inl rfl) | exact Or.inr (Or.inr rfl)) (hd : (x == ("__debug__" : Str)) = false := by decide) (hcd : (x == ("__classdict__" : Str)) = false := by decide)
  (hbase : ∀ env : PySem.Env, attributeBase (.Subscript (.Name x xp) a up) nm env (eval (.Subscript (.Name x xp) a up) env) = eval (.Subscript (.Name x xp) a up) env := by intro _; rfl)
  (hfew : ∀ env : PySem.Env, ((backTo cp (starEach (e :: es) env)).all (fun x => !x.1) && (backToKw cp (keywordEach [] env)).all (fun x => x.1.isSome) && decide ((e :: es).length + ([] : List Keyword).length + (if ([] : List Keyword).isEmpty then 0 else 1) < 30)) = true := by intro _; rfl)
  (hline : (ap.endLine == cp.line) = true := by rfl) (hs : ∀ env : PySem.Env, starEach (e :: es) env = (false, eval e env) :: starEach es env := by intro _; rfl) (hpl : ∀ env : PySem.Env, (backTo cp (starEach es env)).any (·.1) = false := by intro _; rfl)
  (hw : ∀ env : PySem.Env, swapsWith (.Call (.Attribute (.Subscript (.Name x xp) a up) nm ap) (e :: es) [] cp) none pos.line env = pure false := by intro _; rfl) :
  SV G (.Expr (.Call (.Attribute (.Subscript (.Name x xp) a up) nm ap) (e :: es) [] cp) pos) (a65 i f2 m fs) := by
 obtain ⟨t, pp, q⟩ := h
 obtain ⟨t2, p2, q2⟩ := h2
 obtain ⟨id, r, sl, ty, hr, hm⟩ := L.ex
 refine ⟨fun W => tDrop (tBM G.K "list" r (tOp (rIxL G.K) (tVar i) (t2 W)) (t W)), fun X W k => ?_, fun W σ H ρ S o c D nt rs ps => ?_⟩
 ·have hp := pe_ix (pos := up) (ix_list (X := X)) (pe_var (pos := xp) (k.at hN) (k.vis hv) hd hcd) (p2 X W k) hs2
  have := pe_bm (X := X) PySem.F.plainAttrs_list sl ty (hr X W k) hp (pp X W k) (hbase _) (hfew _) hline (hs _) (hpl _)
  rw [k.K] at this
  exact ps_expr this (hw _)
 unfold a65 at ps
 split at ps
 rotate_left
 ·exact ps.elim
 ·rename_i xss e2
  obtain ⟨v0, ev, _⟩ := rs.slot i _ e2
  refine ⟨v0, ev, (q2 W).s nt rs ps fun da S3 iv o3 c3 H3 s3 nt3 rs3 ri p3 => ?_⟩
  cases da with
  | int j =>
   cases e4 : ixN xss.length j with
   | none => simp only [e4] at p3; exact p3.elim
   | some k =>
    simp only [e4] at p3
    cases e5 : xss[k]? with
    | none => simp only [e5] at p3; exact p3.elim
    | some xs =>
     simp only [e5] at p3
     obtain ⟨a3, as, b3, vs, k3, y1, y2, y3, y4, y5, y6, y7, y8, y9, y10, _⟩ := b2C rs3 e2 (b2m e4 e5)
     rw [ev] at y1
     cases y1
     rw [e4] at y4
     cases y4
     refine ⟨a3, _, j, .ref b3, rfl, ri.intV, .inl (.inl y2), y3, .inl ⟨rfl, vs, .of y8⟩, ?_⟩
     refine (q W).s nt3 rs3 p3 fun ds S5 us o5 c5 H5 s5 nt5 rs5 rj p5 => ?_
     ·cases e7 : m xs ds with
      | none => simp only [e7] at p5; exact p5.elim
      | some xd =>
       obtain ⟨xs', d'⟩ := xd
       simp only [e7] at p5
       obtain ⟨a5, as5, b5, vs5, k5, z1, z2, z3, z4, z5, z6, z7, z8, z9, z10, wr⟩ := b2C rs5 e2 (b2m e4 e5)
       rw [ev] at z1
       cases z1
       rw [e4] at z4
       cases z4
       have hA : H5 a3 = some (.lst (as.map V.ref)) := s5.keep a3 _ y2 fun w hw => by
        obtain ⟨v', ev', a', as', e', q', _⟩ := rs3.slot i _ e2
        rw [ev] at ev'
        cases ev'
        cases e'
        rw [q'] at hw
        cases hw
        exact fun z => z
       rw [hA] at z2
       have has : as.map V.ref = as5.map V.ref := by
        simp only [Option.some.injEq, HO.lst.injEq] at z2
        exact z2
       have : b5 = b3 := by
        have h1 : (as5.map V.ref)[k]? = some (.ref b5) := by rw [List.getElem?_map, z6]; rfl
        have h2 : (as.map V.ref)[k]? = some (.ref b3) := by rw [List.getElem?_map, y6]; rfl
        rw [has, h1] at h2
        cases h2
        rfl
       subst this
       refine hm o5 H5 b5 vs5 xs us ds xs' d' _ z8 z9 z10 rj e7 fun v' vs' r' zl rv => ?_
       obtain ⟨s6, rs6⟩ := wr vs' xs' zl r'
       exact p5 σ o5 c5 _ s6 nt5 rs6
  | _ => exact p3.elim
end
end BV
namespace BV
open PySem PySem.Spec PyProof.Rows L2
def b3w (f : SE) : SE := fun ρ S => match f ρ S with
 | .ok (.own2 xss) S1 => if xss.length < 10000 then .ok (.own2 (xss ++ [[], []])) S1 else .bad
 | .exc e S1 => .exc e S1
 | _ => .bad
@[simp] theorem b9Z {f : SE} {ρ : En} {S : Sto} : b3w f ρ S = (match f ρ S with
 | .ok (.own2 xss) S1 => if xss.length < 10000 then .ok (.own2 (xss ++ [[], []])) S1 else .bad
 | .exc e S1 => .exc e S1
 | _ => .bad) := rfl
section
variable {G : Cc} {a : Expr} {f : SE} {p1 p2 p3 pos : Pos}
theorem b7E (h : EV G a f) : EV G (.BinOp a .Add (.List [.List [] p1, .List [] p2] p3) pos) (b3w f) := by
 obtain ⟨t, pp, q⟩ := h
 refine ⟨fun W => tOp rCat (t W) (tLst (tCons (tLst tNil) (tCons (tLst tNil) tNil))), fun X W k => pe_op (op_cat (X := X)) (pp X W k) (pe_lst (pa_cons (pe_lst pa_nil) (pa_cons (pe_lst pa_nil) pa_nil))), fun W σ H ρ S o c Q nt rs ps => ?_⟩
 refine q W σ H ρ S o c _ nt rs ?_
 unfold b3w at ps
 cases e1 : f ρ S with
 | bad => rw [e1] at ps; exact ps.elim
 | exc e' S' => rw [e1] at ps; exact ps
 | ok t0 S1 =>
  rw [e1] at ps
  cases t0 with
  | own2 xss =>
   dsimp only at ps
   split at ps
   rotate_left
   ·exact ps.elim
   rename_i hlt
   intro v o1 c1 H1 s1 rs1 r1
   obtain ⟨A, as, rfl, oA, hA, nd, la, lx, ri⟩ := r1
   -- the display
   refine ⟨Nat.zero_le _, fun b1 n1 => ⟨Nat.zero_le _, fun b2 n2 => ⟨by show 2 ≤ sizeLine; decide, fun b3 n3 => ?_⟩⟩⟩
   have s2 : Step d3 o1 c1 H1 (mkO o1 b1 .tmp) c1 (upd H1 b1 (.lst [])) := Step.laidO rs1.cs.trk n1
   have rs2 : RS G.K (mkO o1 b1 .tmp) c1 ρ S1 σ (upd H1 b1 (.lst [])) := rs1.laidO n1 trivial
   have s3 : Step d3 (mkO o1 b1 .tmp) c1 (upd H1 b1 (.lst [])) (mkO (mkO o1 b1 .tmp) b2 .tmp) c1 (upd (upd H1 b1 (.lst [])) b2 (.lst [])) := Step.laidO rs2.cs.trk n2
   have rs3 : RS G.K (mkO (mkO o1 b1 .tmp) b2 .tmp) c1 ρ S1 σ (upd (upd H1 b1 (.lst [])) b2 (.lst [])) := rs2.laidO n2 trivial
   have s4 : Step d3 (mkO (mkO o1 b1 .tmp) b2 .tmp) c1 (upd (upd H1 b1 (.lst [])) b2 (.lst [])) (mkO (mkO o1 b1 .tmp) b2 .tmp) c1 (upd (upd (upd H1 b1 (.lst [])) b2 (.lst [])) b3 (.lst [.ref b1, .ref b2])) := Step.laid n3
   have rs4 : RS G.K (mkO (mkO o1 b1 .tmp) b2 .tmp) c1 ρ S1 σ (upd (upd (upd H1 b1 (.lst [])) b2 (.lst [])) b3 (.lst [.ref b1, .ref b2])) := rs3.laid n3
   have hA4 : (upd (upd (upd H1 b1 (.lst [])) b2 (.lst [])) b3 (.lst [.ref b1, .ref b2])) A = some (.lst (as.map V.ref)) := by
    have e2 : (upd H1 b1 (.lst [])) A = some (.lst (as.map V.ref)) := by rw [upd_ne (ne_of_none hA n1)]; exact hA
    have e3 : (upd (upd H1 b1 (.lst [])) b2 (.lst [])) A = some (.lst (as.map V.ref)) := by rw [upd_ne (ne_of_none e2 n2)]; exact e2
    rw [upd_ne (ne_of_none e3 n3)]
    exact e3
   refine ⟨A, b3, as.map V.ref, [.ref b1, .ref b2], rfl, rfl, hA4, upd_same, by rw [List.length_map]; show as.length + 2 ≤ sizeLine; rw [sizeLine_eq]; omega, fun D n4 => ?_⟩
   have s5 : Step d3 (mkO (mkO o1 b1 .tmp) b2 .tmp) c1 (upd (upd (upd H1 b1 (.lst [])) b2 (.lst [])) b3 (.lst [.ref b1, .ref b2])) (mkO (mkO (mkO o1 b1 .tmp) b2 .tmp) D .tmp) c1 (upd (upd (upd (upd H1 b1 (.lst [])) b2 (.lst [])) b3 (.lst [.ref b1, .ref b2])) D (.lst (as.map V.ref ++ [.ref b1, .ref b2]))) := Step.laidO rs4.cs.trk n4
   have rs5 : RS G.K (mkO (mkO (mkO o1 b1 .tmp) b2 .tmp) D .tmp) c1 ρ S1 σ (upd (upd (upd (upd H1 b1 (.lst [])) b2 (.lst [])) b3 (.lst [.ref b1, .ref b2])) D (.lst (as.map V.ref ++ [.ref b1, .ref b2]))) := rs4.laidO n4 trivial
   have st15 := ((s2.trans s3).trans s4).trans s5
   have st15' := st15
   have b1n2 : b1 ≠ b2 := fun z => by rw [← z, upd_same] at n2; cases n2
   have hb1 : (upd H1 b1 (.lst [])) b1 = some (.lst []) := upd_same
   have hb1' : (upd (upd H1 b1 (.lst [])) b2 (.lst [])) b1 = some (.lst []) := by rw [upd_ne b1n2]; exact hb1
   have hb2' : (upd (upd H1 b1 (.lst [])) b2 (.lst [])) b2 = some (.lst []) := upd_same
   have b13 : b1 ≠ b3 := fun z => by rw [← z, hb1'] at n3; cases n3
   have b23 : b2 ≠ b3 := fun z => by rw [← z, hb2'] at n3; cases n3
   have hb1'' : (upd (upd (upd H1 b1 (.lst [])) b2 (.lst [])) b3 (.lst [.ref b1, .ref b2])) b1 = some (.lst []) := by rw [upd_ne b13]; exact hb1'
   have hb2'' : (upd (upd (upd H1 b1 (.lst [])) b2 (.lst [])) b3 (.lst [.ref b1, .ref b2])) b2 = some (.lst []) := by rw [upd_ne b23]; exact hb2'
   have b1D : b1 ≠ D := fun z => by rw [← z, hb1''] at n4; cases n4
   have b2D : b2 ≠ D := fun z => by rw [← z, hb2''] at n4; cases n4
   have rows : ∀ b ∈ as, ∃ u, H1 b = some u := fun b hb => by
    obtain ⟨i, hi⟩ := List.getElem?_of_mem hb
    have hl := (List.getElem?_eq_some_iff.mp hi).1
    obtain ⟨_, vs, hv, _⟩ := ri i b _ hi (List.getElem?_eq_getElem (by omega))
    exact ⟨_, hv⟩
   have nb1 : b1 ∉ as := fun z => by obtain ⟨u, hu⟩ := rows b1 z; rw [n1] at hu; cases hu
   have keep2 : ∀ b u, H1 b = some u → (upd H1 b1 (.lst [])) b = some u := fun b u e => by rw [upd_ne (ne_of_none e n1)]; exact e
   have nb2 : b2 ∉ as := fun z => by obtain ⟨u, hu⟩ := rows b2 z; have := keep2 _ _ hu; rw [n2] at this; cases this
   have keep4 : ∀ b u, H1 b = some u → (upd (upd (upd H1 b1 (.lst [])) b2 (.lst [])) b3 (.lst [.ref b1, .ref b2])) b = some u := fun b u e => by
    have e2 := keep2 b u e
    have e3 : (upd (upd H1 b1 (.lst [])) b2 (.lst [])) b = some u := by rw [upd_ne (ne_of_none e2 n2)]; exact e2
    rw [upd_ne (ne_of_none e3 n3)]
    exact e3
   have nD : D ∉ as := fun z => by obtain ⟨u, hu⟩ := rows D z; have := keep4 _ _ hu; rw [n4] at this; cases this
   have nd2 : as.Nodup := (List.nodup_cons.mp nd).2
   refine ps (.ref D) _ c1 _ (s1.trans st15) rs5 ⟨D, as ++ [b1, b2], rfl, u9, ?_, ?_, ?_, ?_, ?_⟩
   ·rw [List.map_append]
    exact upd_same
   ·rw [List.nodup_cons]
    refine ⟨fun z => ?_, ?_⟩
    ·rcases List.mem_append.mp z with y | y
     ·exact nD y
     ·simp only [List.mem_cons, List.not_mem_nil, or_false] at y
      rcases y with y | y
      ·exact b1D y.symm
      ·exact b2D y.symm
    ·rw [List.nodup_append]
     refine ⟨nd2, by simp [b1n2], fun x hx y hy e => ?_⟩
     subst e
     simp only [List.mem_cons, List.not_mem_nil, or_false] at hy
     rcases hy with y | y
     ·exact nb1 (y ▸ hx)
     ·exact nb2 (y ▸ hx)
   ·rw [List.length_append]
    show as.length + 2 ≤ sizeLine
    rw [sizeLine_eq]
    omega
   ·rw [List.length_append, List.length_append, lx]
    rfl
   ·intro i b xs hi hx
    by_cases hil : i < as.length
    ·rw [List.getElem?_append_left hil] at hi
     rw [List.getElem?_append_left (by omega)] at hx
     obtain ⟨ob, vs, hv, hz, ra⟩ := ri i b xs hi hx
     refine ⟨st15'.own b _ ob (fun z => z), vs, st15'.keep b _ hv (fun w hw => by rw [ob] at hw; cases hw; exact fun z => z), hz, ra.step rs1.cs.trk st15' (vol := d3)⟩
    ·have hi2 : i < as.length + 2 := by
      have := (List.getElem?_eq_some_iff.mp hi).1
      rw [List.length_append] at this
      exact this
     rw [List.getElem?_append_right (by omega)] at hi
     rw [List.getElem?_append_right (by omega)] at hx
     rcases (by omega : i = as.length ∨ i = as.length + 1) with z | z
     ·subst z
      rw [Nat.sub_self] at hi
      rw [← lx, Nat.sub_self] at hx
      cases hi
      cases hx
      refine ⟨by rw [B8 b1D, B8 b1n2, u9], [], by rw [upd_ne b1D]; exact hb1'', Nat.zero_le _, .nil⟩
     ·subst z
      rw [show as.length + 1 - as.length = 1 by omega] at hi
      rw [← lx, show as.length + 1 - as.length = 1 by omega] at hx
      cases hi
      cases hx
      refine ⟨by rw [B8 b2D, u9], [], by rw [upd_ne b2D]; exact hb2'', Nat.zero_le _, .nil⟩
  | _ => exact ps.elim
end
end BV
namespace BV
open PySem L2

def r8 (n : Nat) : Bool := decide (n ≤ sizeLine)
theorem a4V (n : Nat) : (r8 n = true) = (n ≤ sizeLine) := by
 unfold r8
 exact propext ⟨of_decide_eq_true, decide_eq_true⟩
theorem i5 {n : Nat} (h : n ≤ sizeLine) : r8 n = true := decide_eq_true h
theorem i6 : 4096 ≤ sizeLine := by decide
@[simp] theorem c2g : r8 0 = true := i5 (Nat.le_trans (show 0 ≤ 4096 by decide) i6)
@[simp] theorem c1h : r8 1 = true := i5 (Nat.le_trans (show 1 ≤ 4096 by decide) i6)
@[simp] theorem c2l : r8 2 = true := i5 (Nat.le_trans (show 2 ≤ 4096 by decide) i6)
@[simp] theorem c17 : r8 3 = true := i5 (Nat.le_trans (show 3 ≤ 4096 by decide) i6)
@[simp] theorem c2x : r8 4 = true := i5 (Nat.le_trans (show 4 ≤ 4096 by decide) i6)
@[simp] theorem c1i : r8 5 = true := i5 (Nat.le_trans (show 5 ≤ 4096 by decide) i6)
@[simp] theorem c1J : r8 6 = true := i5 (Nat.le_trans (show 6 ≤ 4096 by decide) i6)
@[simp] theorem c2M : r8 7 = true := i5 (Nat.le_trans (show 7 ≤ 4096 by decide) i6)
@[simp] theorem c1G : r8 8 = true := i5 (Nat.le_trans (show 8 ≤ 4096 by decide) i6)
@[simp] theorem c14 : r8 9 = true := i5 (Nat.le_trans (show 9 ≤ 4096 by decide) i6)
@[simp] theorem c0Y : r8 10 = true := i5 (Nat.le_trans (show 10 ≤ 4096 by decide) i6)
@[simp] theorem c0x : r8 11 = true := i5 (Nat.le_trans (show 11 ≤ 4096 by decide) i6)
@[simp] theorem c0w : r8 12 = true := i5 (Nat.le_trans (show 12 ≤ 4096 by decide) i6)
@[simp] theorem c00 : r8 13 = true := i5 (Nat.le_trans (show 13 ≤ 4096 by decide) i6)
@[simp] theorem c0q : r8 14 = true := i5 (Nat.le_trans (show 14 ≤ 4096 by decide) i6)
@[simp] theorem c0W : r8 15 = true := i5 (Nat.le_trans (show 15 ≤ 4096 by decide) i6)
@[simp] theorem c0Z : r8 16 = true := i5 (Nat.le_trans (show 16 ≤ 4096 by decide) i6)
@[simp] theorem c0L : r8 17 = true := i5 (Nat.le_trans (show 17 ≤ 4096 by decide) i6)
@[simp] theorem c0h : r8 18 = true := i5 (Nat.le_trans (show 18 ≤ 4096 by decide) i6)
@[simp] theorem c0G : r8 19 = true := i5 (Nat.le_trans (show 19 ≤ 4096 by decide) i6)
@[simp] theorem c0X : r8 20 = true := i5 (Nat.le_trans (show 20 ≤ 4096 by decide) i6)
@[simp] theorem c0r : r8 21 = true := i5 (Nat.le_trans (show 21 ≤ 4096 by decide) i6)
@[simp] theorem c0T : r8 22 = true := i5 (Nat.le_trans (show 22 ≤ 4096 by decide) i6)
@[simp] theorem c08 : r8 23 = true := i5 (Nat.le_trans (show 23 ≤ 4096 by decide) i6)
@[simp] theorem c0H : r8 24 = true := i5 (Nat.le_trans (show 24 ≤ 4096 by decide) i6)
@[simp] theorem c09 : r8 25 = true := i5 (Nat.le_trans (show 25 ≤ 4096 by decide) i6)
@[simp] theorem c0E : r8 26 = true := i5 (Nat.le_trans (show 26 ≤ 4096 by decide) i6)
@[simp] theorem c0k : r8 27 = true := i5 (Nat.le_trans (show 27 ≤ 4096 by decide) i6)
@[simp] theorem c0V : r8 28 = true := i5 (Nat.le_trans (show 28 ≤ 4096 by decide) i6)
@[simp] theorem c01 : r8 29 = true := i5 (Nat.le_trans (show 29 ≤ 4096 by decide) i6)
@[simp] theorem c0J : r8 30 = true := i5 (Nat.le_trans (show 30 ≤ 4096 by decide) i6)
@[simp] theorem c04 : r8 31 = true := i5 (Nat.le_trans (show 31 ≤ 4096 by decide) i6)
@[simp] theorem c0O : r8 32 = true := i5 (Nat.le_trans (show 32 ≤ 4096 by decide) i6)
section
variable {f f1 f2 f3 : SE} {g g1 g2 : SS} {fs : SA} {fu : SU} {b b1 b2 : SB} {ρ ρ' : En} {S S' S1 : Sto} {t : T} {e : Exc} {i : Nat} {d : D}
@[simp] theorem b0h : k7 g1 g2 ρ S = (g1 ρ S).then g2 := rfl
@[simp] theorem b1L : (Fl.nx ρ S).then g = g ρ S := rfl
@[simp] theorem b87 : (Fl.bk ρ S).then g = .bk ρ S := rfl
@[simp] theorem b94 : (Fl.ct ρ S).then g = .ct ρ S := rfl
@[simp] theorem b9D : (Fl.rt t S).then g = .rt t S := rfl
@[simp] theorem b8A : (Fl.ex e ρ S).then g = .ex e ρ S := rfl
@[simp] theorem c27 : r7 ρ S = .nx ρ S := rfl
@[simp] theorem c06 {k} : sE f k ρ S = (match f ρ S with | .ok t S1 => k t ρ S1 | .exc e S1 => .ex e ρ S1 | .bad => .bad) := rfl
@[simp] theorem c5d {k} : sD f k ρ S = sE f (fun t ρ S => match asD t with | some d => k d ρ S | none => .bad) ρ S := rfl
@[simp] theorem b6Y : u8 i f ρ S = sE f (fun t ρ S => .nx (ρ.set i (some t)) S) ρ S := rfl
@[simp] theorem c20 : b7g i f ρ S = u8 i (b7R f) ρ S := rfl
@[simp] theorem c3H : b7R f ρ S = (match f ρ S with | .ok t S1 => (match b73 t with | some k => .ok (.cel S1.length) (S1 ++ [k]) | none => .bad) | .exc e S1 => .exc e S1 | .bad => .bad) := rfl
@[simp] theorem b75 {xs} : b73 (.own xs) = some (.lst xs) := rfl
@[simp] theorem b63 {q kvs} : b73 (.ownd q kvs) = some (.dct q kvs) := rfl
@[simp] theorem c2m : G9 f ρ S = sE f (fun t _ S => .rt t S) ρ S := rfl
@[simp] theorem c3n : a0S i ρ S = (match ρ[i]? with | some (some t) => .rt t S | _ => .bad) := rfl
@[simp] theorem c26 : sIf b g1 g2 ρ S = (match b ρ S with | .ok c S1 => if c = true then g1 ρ S1 else g2 ρ S1 | .exc e S1 => .ex e ρ S1 | .bad => .bad) := rfl
@[simp] theorem c4n : c1Q ρ S = .bk ρ S := rfl
@[simp] theorem c1f {src : SI} {bb : BT1} : a1t src bb g ρ S = (match src ρ S with | .ok ds S1 => Y3 bb g ds ρ S1 | .exc e S1 => .ex e ρ S1 | .bad => .bad) := rfl
@[simp] theorem c4e : sFz i g ρ S = (match fz i ρ with | some ρ' => g ρ' S | none => .bad) := rfl
@[simp] theorem c4b : fz i ρ = (match ρ[i]? with | some (some t) => (asD t).map fun d => ρ.set i (some (.val d)) | _ => none) := rfl
@[simp] theorem c4Y : b9r i f1 f2 ρ S = sE f2 (fun t ρ S => match asD t with
 | none => .bad
 | some d => match ρ[i]? with
  | some (some (.own xs)) => sD f1 (fun di ρ S => match di with
   | .int j => (match ixN xs.length j with | some k => .nx (ρ.set i (some (.own (xs.set k d)))) S | none => .bad)
   | _ => .bad) ρ S
  | some (some (.ownd q kvs)) => sD f1 (fun di ρ S => match a5G q kvs di d with
   | some kvs' => .nx (ρ.set i (some (.ownd q kvs'))) S
   | none => .bad) ρ S
  | _ => .bad) ρ S := rfl
@[simp] theorem c3g : b0a i f1 f2 ρ S = sE f2 (fun t ρ S => match asD t with
 | none => .bad
 | some d => match ρ[i]? with
  | some (some (.cel n)) => sD f1 (fun di ρ S => match S[n]? with
   | some (.lst xs) => (match di with
    | .int j => (match ixN xs.length j with | some k => .nx ρ (S.set n (.lst (xs.set k d))) | none => .bad)
    | _ => .bad)
   | some (.dct q kvs) => (match a5G q kvs di d with | some kvs' => .nx ρ (S.set n (.dct q kvs')) | none => .bad)
   | _ => .bad) ρ S
  | _ => .bad) ρ S := rfl
@[simp] theorem c5a {α : Type} {h : En → Sto → R α} {k} : sA h k ρ S = (match h ρ S with | .ok t S1 => k t ρ S1 | .exc e S1 => .ex e ρ S1 | .bad => .bad) := rfl
@[simp] theorem c3s : W6 d ρ S = .nx ρ S := rfl
@[simp] theorem c4S : l7 i ρ S = (match ρ[i]? with | some (some (.val d)) => .ok (.val d) S | some (some (.cel n)) => .ok (.cel n) S | some (some (.scr ns)) => .ok (.scr ns) S | some (some (.exn a C d e)) => .ok (.exn a C d e) S | _ => .bad) := rfl
@[simp] theorem c0c : b7 i ρ S = (match ρ[i]? with | some (some (.val d)) => .ok (.val d) S | some (some (.own xs)) => .ok (.own xs) S | some (some (.ownd q kvs)) => .ok (.ownd q kvs) S | _ => .bad) := rfl
@[simp] theorem e_C : cC d ρ S = .ok (.val d) S := rfl
@[simp] theorem b9X {h : D → D → Option T} : d5 h f1 f2 ρ S = R.d (f1 ρ S) fun a S1 => R.d (f2 ρ S1) fun b S2 => match h a b with | some t => .ok t S2 | none => .bad := rfl
@[simp] theorem c5c {h : D → Option T} : cUn h f ρ S = R.d (f ρ S) fun a S1 => match h a with | some t => .ok t S1 | none => .bad := rfl
@[simp] theorem a2y {k} : R.d (.ok (.val d) S) k = k d S := rfl
@[simp] theorem c2O {xs k} : R.d (.ok (.own xs) S) k = k (.list xs) S := rfl
@[simp] theorem c0P {xs k} : R.d (.ok (.own2 xs) S) k = k (.list (xs.map PyData.list)) S := rfl
@[simp] theorem c1R {k} : R.d (.exc e S) k = .exc e S := rfl
@[simp] theorem c18 {k} : R.d .bad k = .bad := rfl
@[simp] theorem a1g {α β : Type} {t : α} {k : α → Sto → R β} : R.l (.ok t S) k = k t S := rfl
@[simp] theorem c1N {α β : Type} {k : α → Sto → R β} : R.l (.exc e S) k = .exc e S := rfl
@[simp] theorem c2j {α β : Type} {k : α → Sto → R β} : R.l .bad k = .bad := rfl
@[simp] theorem b1T : asD (.val d) = some d := rfl
@[simp] theorem b8J {xs} : asD (.own xs) = some (.list xs) := rfl
@[simp] theorem b76 {xs} : asD (.own2 xs) = some (.list (xs.map PyData.list)) := rfl
@[simp] theorem b9P {n} : asD (.cel n) = none := rfl
@[simp] theorem b8X {a C d e} : asD (.exn a C d e) = none := rfl
@[simp] theorem b8F {n} : asD (.scr n) = none := rfl
@[simp] theorem b9Y : asA (.val d) = .val d := rfl
@[simp] theorem b8N {xs} : asA (.own xs) = .val (.list xs) := rfl
@[simp] theorem b7W {xs} : asA (.own2 xs) = .val (.list (xs.map PyData.list)) := rfl
@[simp] theorem b8M {n} : asA (.cel n) = .cel n := rfl
@[simp] theorem b97 {a C d e} : asA (.exn a C d e) = .exn a C d e := rfl
@[simp] theorem b9e {n} : asA (.scr n) = .scr n := rfl
@[simp] theorem c3N : l8 ρ S = .ok [] S := rfl
@[simp] theorem c2p : d2 f fs ρ S = R.l (f ρ S) fun t S1 => R.l (fs ρ S1) fun ts S2 => .ok (asA t :: ts) S2 := rfl
@[simp] theorem c3B : w3 ρ S = .ok [] S := rfl
@[simp] theorem c1t : i4 f fu ρ S = (match f ρ S with | .ok t S1 => (match asD t with | some d => R.l (fu ρ S1) fun ds S2 => .ok (d :: ds) S2 | none => .bad) | .exc e S1 => .exc e S1 | .bad => .bad) := rfl
@[simp] theorem b8Y {h : Fn} : p6 h fs ρ S = R.l (fs ρ S) fun ts S1 => h ts S1 := rfl
@[simp] theorem c3q : t9 fs ρ S = R.l (fs ρ S) fun ts S1 => match a16 ts with | some ds => if r8 ds.length = true then .ok (.own ds) S1 else .bad | none => .bad := by
 unfold t9
 congr 1
 funext ts S1
 cases a16 ts with
 | none => rfl
 | some ds =>
  by_cases h : ds.length ≤ sizeLine
  ·simp only [if_pos h, if_pos (i5 h)]
  ·have h2 : ¬ r8 ds.length = true := by rw [a4V]; exact h
   simp only [if_neg h, if_neg h2]
@[simp] theorem c4o : X0 fs ρ S = R.l (fs ρ S) fun ts S1 => match a16 ts with | some ds => if r8 ds.length = true then .ok (.val (.tuple ds)) S1 else .bad | none => .bad := by
 unfold X0
 congr 1
 funext ts S1
 cases a16 ts with
 | none => rfl
 | some ds =>
  by_cases h : ds.length ≤ sizeLine
  ·simp only [if_pos h, if_pos (i5 h)]
  ·have h2 : ¬ r8 ds.length = true := by rw [a4V]; exact h
   simp only [if_neg h, if_neg h2]
@[simp] theorem b7V : a16 [] = some [] := rfl
@[simp] theorem b6J {ts} : a16 (.val d :: ts) = (a16 ts).map (d :: ·) := rfl
@[simp] theorem c5b {h : List D → Option T} : cB1 h fu ρ S = R.l (fu ρ S) fun ds S1 => match h ds with | some t => .ok t S1 | none => .bad := rfl
@[simp] theorem c48 : cT f ρ S = (f ρ S).tr := rfl
@[simp] theorem c5i : cB f ρ S = (f ρ S).b := rfl
@[simp] theorem c2K {c} : (R.ok (.val (.bool c)) S).b = .ok c S := rfl
@[simp] theorem c2y : (R.exc e S : R T).b = .exc e S := rfl
@[simp] theorem c1B : (R.ok t S).tr = (match (asD t).bind a30 with | some b => .ok b S | none => .bad) := rfl
@[simp] theorem c0N : (R.exc e S : R T).tr = .exc e S := rfl
@[simp] theorem c3D : b7T b1 b2 ρ S = R.l (b1 ρ S) fun c S1 => if c = true then b2 ρ S1 else .ok false S1 := rfl
@[simp] theorem c4D : bOr b1 b2 ρ S = R.l (b1 ρ S) fun c S1 => if c = true then .ok true S1 else b2 ρ S1 := rfl
@[simp] theorem c31 : a8e b ρ S = R.l (b ρ S) fun c S1 => .ok (!c) S1 := rfl
@[simp] theorem c3S : b1r f1 f2 ρ S = R.d (f1 ρ S) fun d S1 => match a30 d with | some true => f2 ρ S1 | some false => .ok (.val d) S1 | none => .bad := rfl
@[simp] theorem c3h : c1K f ρ S = cUn (fun d => (a30 d).map fun b => .val (.bool (!b))) f ρ S := rfl
@[simp] theorem c16 : a2h i f ρ S = (match ρ[i]? with | some (some (.scr ns)) => R.d (f ρ S) fun d S1 => (match d with | .int j => (match atI ns j with | some n => .ok (.val (.int n)) S1 | none => .bad) | _ => .bad) | _ => .bad) := rfl
@[simp] theorem c0s : a00 i ρ S = (match ρ[i]? with | some (some (.scr ns)) => .ok (.val (.int (ns.length : Int))) S | _ => .bad) := rfl
@[simp] theorem c2F {neg : Bool} : a5b neg f i ρ S = R.d (f ρ S) fun d S1 => (match ρ[i]? with | some (some (.cel n)) => (match S1[n]? with | some (.dct q kvs) => (match a0r (mkD q kvs) d with | some o => .ok (.val (.bool (if neg then !o.isSome else o.isSome))) S1 | none => .bad) | _ => .bad) | _ => .bad) := rfl
@[simp] theorem c2Q : R0 i f ρ S = (match ρ[i]? with | some (some (.cel n)) => R.d (f ρ S) fun d S1 => (match d, S1[n]? with | .int j, some (.lst xs) => (match atI xs j with | some x => .ok (.val x) S1 | none => .bad) | _, _ => .bad) | _ => .bad) := rfl
@[simp] theorem c0B : a3a ρ S = .ok none S := rfl
@[simp] theorem c22 : a21 f ρ S = (match f ρ S with | .ok t S1 => (match asD t with | some (.int i) => .ok (some i) S1 | _ => .bad) | .exc e S1 => .exc e S1 | .bad => .bad) := rfl
@[simp] theorem c45 {h1 h2} : cSl f h1 h2 ρ S = R.d (f ρ S) fun d S1 => R.l (h1 ρ S1) fun lo S2 => R.l (h2 ρ S2) fun hi S3 => match gSl d lo hi with | some t => .ok t S3 | none => .bad := rfl
@[simp] theorem c4M {h} : a1H h fu ρ S = R.l (fu ρ S) fun ds S1 => match h ds with | some xs => .ok xs S1 | none => .bad := rfl
@[simp] theorem a9A : a07 f ρ S = (match f ρ S with | .ok t S1 => (match (asD t).bind b8h with | some ds => .ok ds S1 | none => .bad) | .exc e S1 => .exc e S1 | .bad => .bad) := rfl
@[simp] theorem c0o {xs} : b8h (.list xs) = some xs := rfl
@[simp] theorem c0z {xs} : b8h (.tuple xs) = some xs := rfl
@[simp] theorem c1L : f8 i d ρ = some (ρ.set i (some (.val d))) := rfl
@[simp] theorem b7F {n : Nat} {ts : List T} : start0 n ts = ts.map some ++ List.replicate (n - ts.length) none := rfl
theorem b3A {n : Nat} {ts : List T} : fnL n g ts S = (match g (start0 n ts) S with | .nx _ S' => .ok (.val .none) S' | .rt t S' => .ok t S' | .ex e _ S' => .exc e S' | _ => .bad) := rfl
-- operators
@[simp] theorem c1y {i j : Int} : w9 (.int i) (.int j) = some (.val (.int (i + j))) := rfl
@[simp] theorem c1T {i j : Int} : gSub (.int i) (.int j) = some (.val (.int (i - j))) := rfl
theorem U5 {i j : Int} (h : i.natAbs.log2 + j.natAbs.log2 < 1000000) : E2 (.int i) (.int j) = some (.val (.int (i * j))) := by
 show (if b2P i j then _ else _) = _
 rw [if_pos (by unfold b2P; exact decide_eq_true h)]
theorem R6 {i j : Int} (h : 0 < j) (h2 : j.natAbs.log2 < 9000) : a4z (.int i) (.int j) = some (.val (.int (i / j))) := by
 show (if b4h j then _ else _) = _
 rw [if_pos (by unfold b4h; simp [h, h2])]
theorem b6i {i j : Int} (h : 0 < j) : a0g (.int i) (.int j) = some (.val (.int (i % j))) := by
 show (if decide (0 < j) then _ else _) = _
 rw [if_pos (decide_eq_true h)]
theorem a56 {i j : Int} (h : 0 ≤ j) (h2 : j ≤ 1000000) (h3 : i.natAbs < 2 ^ 64) : a3D (.int i) (.int j) = some (.val (.int (i ^ j.toNat))) := by
 show (if decide _ then _ else _) = _
 rw [if_pos (decide_eq_true ⟨h, h2, h3⟩)]
@[simp] theorem c3R {i j : Int} : gLt (.int i) (.int j) = some (.val (.bool (decide (i < j)))) := rfl
@[simp] theorem c23 {i j : Int} : gLe (.int i) (.int j) = some (.val (.bool (decide (i ≤ j)))) := rfl
@[simp] theorem c3E {i j : Int} : gGt (.int i) (.int j) = some (.val (.bool (decide (j < i)))) := rfl
@[simp] theorem c3W {i j : Int} : gGe (.int i) (.int j) = some (.val (.bool (decide (j ≤ i)))) := rfl
@[simp] theorem c2H {i : Int} : a1M (.int i) = some (.val (.int (-i))) := rfl
@[simp] theorem c24 {i j : Int} : gEq false (.int i) (.int j) = some (.val (.bool (decide (i = j)))) := by
 show some (T.val (.bool (PyData.eqv (.int i) (.int j)))) = _
 simp [PyData.eqv]
 try rfl
@[simp] theorem c3m {i j : Int} : gEq true (.int i) (.int j) = some (.val (.bool (decide (i ≠ j)))) := by
 show some (T.val (.bool (!PyData.eqv (.int i) (.int j)))) = _
 simp [PyData.eqv]
 try rfl
@[simp] theorem c4A : b71 d = some (.val (.bool (isNone d))) := rfl
@[simp] theorem c3T : a3M d = some (.val (.bool (!isNone d))) := rfl
@[simp] theorem c33 : isNone .none = true := rfl
@[simp] theorem c4r {i : Int} : isNone (.int i) = false := rfl
@[simp] theorem c3p {i : Bool} : isNone (.bool i) = false := rfl
@[simp] theorem c4x {i : Str} : isNone (.str i) = false := rfl
@[simp] theorem c3Q {i} : isNone (.list i) = false := rfl
@[simp] theorem c1n {i} : isNone (.tuple i) = false := rfl
@[simp] theorem E9 {xs : List D} {j : Int} : gIx (.list xs) (.int j) = (atI xs j).map T.val := rfl
@[simp] theorem b2N {xs : List D} {j : Int} : gIx (.tuple xs) (.int j) = (atI xs j).map T.val := rfl
@[simp] theorem a17 {x : Str} {j : Int} : gIx (.str x) (.int j) = (atI x.cps.toList j).map fun c => .val (.str ⟨#[c]⟩) := rfl
@[simp] theorem c4m {i : Int} : b80 [.int i] = some (.val (.int (if i < 0 then -i else i))) := rfl
@[simp] theorem c4d {i j : Int} : a3n [.int i, .int j] = some (.val (.int (if j < i then j else i))) := rfl
@[simp] theorem c4I {i j : Int} : a4I [.int i, .int j] = some (.val (.int (if j > i then j else i))) := rfl
@[simp] theorem w7 {xs : List D} : X3 [.list xs] = some (.val (.int xs.length)) := rfl
@[simp] theorem a1e {xs : List D} : X3 [.tuple xs] = some (.val (.int xs.length)) := rfl
@[simp] theorem c1g {x : Str} : X3 [.str x] = some (.val (.int x.length)) := rfl
@[simp] theorem c2b {i : Int} : a53 [.int i] = some (.val (.int i)) := rfl
@[simp] theorem c19 {b : Bool} : a53 [.bool b] = some (.val (.int (if b then 1 else 0))) := rfl
@[simp] theorem b8u {xs : List D} : a1p [.list xs] = some (.val (.tuple xs)) := rfl
@[simp] theorem b9t {xs : List D} : a1p [.tuple xs] = some (.val (.tuple xs)) := rfl
@[simp] theorem c07 {xs : List D} : a4K [.list xs] = some (.own xs) := rfl
@[simp] theorem c0v {xs : List D} : a4K [.tuple xs] = some (.own xs) := rfl
@[simp] theorem c4C {b : Bool} : a30 (.bool b) = some b := rfl
@[simp] theorem c4X {i : Int} : a30 (.int i) = some (i != 0) := rfl
@[simp] theorem c4i : a30 .none = some false := rfl
@[simp] theorem c4G {x : Str} : a30 (.str x) = some (x.length != 0) := rfl
@[simp] theorem c39 {x} : a30 (.list x) = some (!x.isEmpty) := rfl
@[simp] theorem c4Z {x} : a30 (.tuple x) = some (!x.isEmpty) := rfl
end
theorem a0V (bs : List Bool) : G7 (bs.map PyData.bool) = some bs := by
 induction bs with
 | nil => rfl
 | cons b bs ih => simp [G7, ih]
@[simp] theorem c1m {bs : List Bool} : b5x [.list (bs.map PyData.bool)] = some (.val (.bool (bs.all id))) := by
 show (G7 _).map _ = _
 rw [a0V]
 rfl
@[simp] theorem c25 {Ty : String} {g : D → List D → Option T} {f : SE} {fs : SU} {ρ : En} {S : Sto} : b4P Ty g f fs ρ S = R.d (f ρ S) fun d S1 => if a9H Ty d = true then R.l (fs ρ S1) fun ds S2 => (match g d ds with | some t => .ok t S2 | none => .bad) else .bad := rfl
@[simp] theorem c4l {x : Str} : a9H "str" (.str x) = true := rfl
@[simp] theorem c4W {xs : List D} : a9H "list" (.list xs) = true := rfl
@[simp] theorem c2A {xs : List D} : c0C (.list xs) = some (.own xs.reverse) := rfl
@[simp] theorem c0F {x : Str} : b8h (.str x) = some (x.cps.toList.map fun c => .str ⟨#[c]⟩) := rfl
theorem U8 {n : Nat} {i : Int} (h0 : 0 ≤ i) (h1 : i < n) : ixN n i = some i.toNat := by
 unfold L2.ixN
 simp only [h0, if_true]
 rw [if_pos (by omega)]
theorem b2d {α : Type} {xs : List α} {i : Int} (h0 : 0 ≤ i) (h1 : i < xs.length) : ∃ v, atI xs i = some v ∧ xs[i.toNat]? = some v := by
 unfold L2.atI
 rw [U8 h0 h1]
 have h : i.toNat < xs.length := by omega
 exact ⟨xs[i.toNat], List.getElem?_eq_getElem h, List.getElem?_eq_getElem h⟩
theorem C7 {α : Type} {xs : List α} {i : Nat} {v : α} (h : xs[i]? = some v) : atI xs (i : Int) = some v := by
 unfold L2.atI
 rw [U8 (by omega) (by have := (List.getElem?_eq_some_iff.mp h).1; omega)]
 exact h
theorem b8P {α : Type} {xs : List α} {i : Int} {v : α} (h0 : 0 ≤ i) (h : xs[i.toNat]? = some v) : atI xs i = some v := by
 unfold L2.atI
 rw [U8 h0 (by have := (List.getElem?_eq_some_iff.mp h).1; omega)]
 exact h
theorem D7 {b : BT1} {body : SS} (I : Nat → En → Sto → Prop) : ∀ (ds : List D) (k : Nat) (ρ : En) (S : Sto), I k ρ S →
  (∀ i d ρ S, ds[i]? = some d → I (k + i) ρ S → ∃ ρ1, b d ρ = some ρ1 ∧ ∃ ρ2 S2, (body ρ1 S = .nx ρ2 S2 ∨ body ρ1 S = .ct ρ2 S2) ∧ I (k + i + 1) ρ2 S2) →
  ∃ ρ' S', Y3 b body ds ρ S = .nx ρ' S' ∧ I (k + ds.length) ρ' S'
 | [], k, ρ, S, h, _ => ⟨ρ, S, rfl, h⟩
 | d :: ds, k, ρ, S, h, st => by
  obtain ⟨ρ1, e1, ρ2, S2, e2, h2⟩ := st 0 d ρ S rfl h
  have ih := D7 I ds (k + 1) ρ2 S2 h2 fun i d' ρ' S' e h' => by
   have := st (i + 1) d' ρ' S' (by simpa using e) (by rw [show k + (i + 1) = k + 1 + i by omega]; exact h')
   rw [show k + (i + 1) = k + 1 + i by omega] at this
   exact this
  obtain ⟨ρ', S', e3, h3⟩ := ih
  refine ⟨ρ', S', ?_, by rw [List.length_cons, show k + (ds.length + 1) = k + 1 + ds.length by omega]; exact h3⟩
  unfold Y3
  rw [e1]
  rcases e2 with e2 | e2
  ·simp only [e2]; exact e3
  ·simp only [e2]; exact e3
end BV
namespace BV
open PySem PySem.Spec PyProof.Rows L2
open He (ba eqO eqO_ok ga)

open Classical in
noncomputable def uni {α : Type} (b : α) (f : K5 → α) : α := if h : ∃ r, ∀ x, f x = r then h.choose else b
theorem b9y {α : Type} {b r : α} {f : K5 → α} (h : ∀ x, f x = r) : uni b f = r := by
 unfold uni
 have e : ∃ r, ∀ x, f x = r := ⟨r, h⟩
 rw [dif_pos e]
 exact (e.choose_spec ⟨0, 0, none⟩).symm.trans (h _)
theorem b9i {α : Type} (b : α) (f : K5 → α) : (∀ x, f x = uni b f) ∨ uni b f = b := by
 unfold uni
 by_cases e : ∃ r, ∀ x, f x = r
 ·rw [dif_pos e]; exact .inl e.choose_spec
 ·rw [dif_neg e]; exact .inr rfl

def DOk (H : Hp) : Option Addr → Prop
 | none => True
 | some dd => ∃ fs, H dd = some (.xd fs)
theorem FldR.dok {H : Hp} {d : Option Addr} {e : Exc} (r : FldR H d e) : DOk H d := by
 unfold FldR at r
 split at r
 ·subst r; exact True.intro
 ·obtain ⟨dd, v, rfl, _, h⟩ := r
  exact ⟨_, h⟩
def Held (X : Cx) (hx : K5) : Prop := ∃ oe : Obj, c0i X.A (hx.a, oe) ∧ (hx.a, oe) ∈ X.pn ∧ Zc (.ref hx.C) hx.d oe ∧ ∃ vs, oe.data = .fields vs
theorem Held.inst {X : Cx} {hx : K5} {pins : List (Addr × Obj)} {σ : L2.St} {H : Hp} {s : Shared} (k : Held X hx) (I : Inv X pins σ H s) (hd : DOk H hx.d) : ∃ oe od, PySem.W.InstAt s.heap hx.a oe hx.C od := by
 obtain ⟨oe, _, hm, hz, vs, hv⟩ := k
 obtain ⟨hget, _⟩ := I.pin (hx.a, oe) (List.mem_append.mpr (.inl hm))
 have hno : PySem.W.notCls oe = true := by unfold PySem.W.notCls; rw [hv] <;> rfl
 cases e : hx.d with
 | none => exact ⟨oe, none, ⟨hget, hz.1, hno, by rw [hz.2, e]; trivial⟩⟩
 | some dd =>
  rw [e] at hd
  obtain ⟨fs, ea⟩ := hd
  obtain ⟨mA, hns, _⟩ := (show ObjOk X.prog X.w H s.heap dd (.xd fs) from I.hok dd _ ea)
  obtain ⟨od, ho, _⟩ := lookIn_ns hns
  exact ⟨oe, some od, ⟨hget, hz.1, hno, by rw [hz.2, e]; exact ho⟩⟩
theorem c3d {K : PySem.W.Frag} {x D : Addr} {oe : Obj} {od : Option Obj} (C : ExcC K D) : PySem.W.KitX K (.ref x) (.ref D) (fun h => PySem.W.InstAt h x oe D od) := by
 have hcl : (PySem.W.clsIn K D).isSome = true := by
  obtain ⟨cd, hc, _⟩ := PySem.W.any_some C.hd
  rw [hc]; rfl
 exact PySem.W.kitx_exc hcl C.hg C.hk C.hs C.ha C.hn C.ht C.hm
def c3k (K : PySem.W.Frag) (hx : K5) : List V → Hp → VK → Prop := fun xs H Q => ∃ (c : V) (u : Value) (b : Bool), xs = [.ref hx.a, c] ∧ ClsV c u ∧ DOk H hx.d ∧ ExcC K hx.C ∧ PySem.W.kitOne K (.ref hx.C) u = some b ∧ Q (.bl b) H
def b9K (K : PySem.W.Frag) (hx : K5) : List V → Hp → VK → Prop := fun xs H Q => ∃ (tp : Addr) (cs : List V) (us : List Value) (b : Bool), xs = [.ref hx.a, .ref tp] ∧ H tp = some (.tup cs) ∧ Paired ClsV cs us ∧ DOk H hx.d ∧ ExcC K hx.C ∧ PySem.W.kitAny K (.ref hx.C) us = some b ∧ Q (.bl b) H
theorem b32 {X : Cx} {hx : K5} (hh : Held X hx) : CallR X (.builtin "isinstance") (c3k X.K hx) := by
 intro pins s σ H xs us Q I r h
 obtain ⟨c, u, b, rfl, k, hd, C, e, q⟩ := h
 obtain ⟨u1, u2, rfl, r1, r2⟩ := vals2 r
 cases (show u1 = Value.ref hx.a from r1)
 have e2 := k.eq r2
 subst e2
 obtain ⟨oe, od, J⟩ := hh.inst I hd
 exact PySem.W.kia_one (c3d C) I.kIn J e (fun z => nomatch z) fun tk => ⟨.bl b, H, I.tok tk, rfl, q⟩
theorem b1P {X : Cx} {hx : K5} (hh : Held X hx) : CallR X (.builtin "isinstance") (b9K X.K hx) := by
 intro pins s σ H xs us Q I r h
 obtain ⟨tp, cs, ws, b, rfl, hT, k, hd, C, e, q⟩ := h
 obtain ⟨u1, u2, rfl, r1, r2⟩ := vals2 r
 cases (show u1 = Value.ref hx.a from r1)
 cases (show u2 = Value.ref tp from r2)
 obtain ⟨oe, od, J⟩ := hh.inst I hd
 obtain ⟨_, its, rv, ot, h1, h2, n, h3⟩ := (show ObjOk X.prog X.w H s.heap tp (.tup cs) from I.hok tp _ hT)
 have e3 := ClsV.all k rv
 subst e3
 obtain ⟨oc, odd, dt, sl⟩ := ot
 simp only at h2 h3
 subst h2 h3
 exact PySem.W.kia_tup (c3d C) I.kIn J h1 e (fun z => nomatch z) fun tk => ⟨.bl b, H, I.tok tk, rfl, q⟩

def b9n (K : PySem.W.Frag) (D : Addr) : Bool := eqO (PySem.W.findIn K (.ref D) "__getattribute__") (some (some (.builtin "BaseException.__getattribute__"))) && (eqO (PySem.W.findIn K (.ref D) "__getattr__") (some none) && (decide (PySem.W.subIn K (.ref D) (.type "BaseException") = some true) && (PySem.W.hasDictIn K D && (eqO (PySem.W.findIn K (.ref D) "__class__") (some (some (.builtin "object.__class__"))) &&
 (eqO (PySem.W.specialIn K (.builtin "object.__class__") "__get__") (some (some (.builtin "getset_descriptor.__get__"))) && (decide (PySem.W.takesIn K (.builtin "object.__class__") = some true) && decide (PySem.W.mroIn K D (.type "object") = some true)))))))
theorem b4b {K : PySem.W.Frag} {D : Addr} (h : b9n K D = true) : ExcC K D := by
 obtain ⟨h1, h⟩ := ba h
 obtain ⟨h2, h⟩ := ba h
 obtain ⟨h3, h⟩ := ba h
 obtain ⟨h4, h⟩ := ba h
 obtain ⟨h5, h⟩ := ba h
 obtain ⟨h6, h⟩ := ba h
 obtain ⟨h7, h8⟩ := ba h
 exact ⟨eqO_ok h1, eqO_ok h2, of_decide_eq_true h3, h4, eqO_ok h5, eqO_ok h6, of_decide_eq_true h7, of_decide_eq_true h8⟩
structure a0Y (K : PySem.W.Frag) : Prop where
 ex : ∀ x D, C5 x = true → PySem.W.nsIn K mainGlobals x = some (some (.ref D)) → ExcC K D
def a6y (K : PySem.W.Frag) : Bool := a2j K fun D _ => b9n K D
theorem b0A {K : PySem.W.Frag} (h : a6y K = true) : a0Y K := ⟨fun x D hx hm => b4b (a1n h hx hm)⟩
structure N5 (K : PySem.W.Frag) (mg : Str → Option Value) (c : Str) : Prop where
 ex : ∃ cv u, ((∃ A, mg c = some (.ref A) ∧ cv = .ref A) ∨ (mg c = none ∧ c ≠ "__name__" ∧ ∃ n, cv = .ty n ∧ bootBuiltins c = some (.type n))) ∧ ClsV cv u ∧ ∀ x D, C5 x = true → PySem.W.nsIn K mainGlobals x = some (some (.ref D)) → PySem.W.kitOne K (.ref D) u = some (d9 x c)
def T8 (K : PySem.W.Frag) (c : Str) : Bool := eqO (PySem.W.nsIn K mainGlobals c) (some (some (.ref (ga K c)))) && a2j K fun D x => decide (PySem.W.kitOne K (.ref D) (.ref (ga K c)) = some (d9 x c))
def c2q (K : PySem.W.Frag) : Bool := a2j K fun D x => decide (PySem.W.kitOne K (.ref D) (.type "ValueError") = some true)
theorem w8 {K : PySem.W.Frag} {h : Heap} {mg : Str → Option Value} {c : Str} (X : K.In h) (Gn : h.Ns mainGlobals mg) (hc : T8 K c = true) : N5 K mg c := by
 obtain ⟨h1, h2⟩ := ba hc
 exact ⟨.ref (ga K c), .ref (ga K c), .inl ⟨_, PySem.W.mg_of X Gn (eqO_ok h1), rfl⟩, .own _, fun x D hx hm => of_decide_eq_true (a1n h2 hx hm)⟩
theorem b31 {K : PySem.W.Frag} {mg : Str → Option Value} (hf : mg "ValueError" = none) (hc : c2q K = true) : N5 K mg "ValueError" :=
 ⟨.ty "ValueError", .type "ValueError", .inr ⟨hf, by decide, _, rfl, by decide +kernel⟩, .ty _, fun x D hx hm => by
  rw [of_decide_eq_true (a1n hc hx hm)]
  unfold d9
  simp⟩
theorem b5h {G : Cc} {X : Cx} {W : WX} {c : Str} {pos : Pos} {cv : V} (k : G.Ok X W) (h : (∃ A, G.mg c = some (.ref A) ∧ cv = .ref A) ∨ (G.mg c = none ∧ c ≠ "__name__" ∧ ∃ n, cv = .ty n ∧ bootBuiltins c = some (.type n))) (hg : G.sc.names.lookup c = some .globalImplicit) (hd : (c == ("__debug__" : Str)) = false) : PE X (.Name c pos) (tC cv) := by
 rcases h with ⟨A, h, rfl⟩ | ⟨h, hn, n, rfl, hb⟩
 ·exact pe_glob (k.gl hg) (k.m h) rfl hd
 ·exact pe_bltn (k.gl hg) (k.m h) hb rfl hn hd

def b5X (hx : K5) (i : Nat) (k : Exc → Sto → R T) : SE := fun ρ S => match ρ[i]? with
 | some (some (.exn a C d e)) => if a = hx.a ∧ C = hx.C ∧ d = hx.d ∧ C5 e.cls = true then k e S else .bad
 | _ => .bad
def c0j (hx : K5) (i : Nat) (c : Str) : SE := b5X hx i fun e S => .ok (.val (.bool (d9 e.cls c))) S
def b3W (hx : K5) (i : Nat) (cs : List Str) : SE := b5X hx i fun e S => .ok (.val (.bool (cs.any (d9 e.cls)))) S
section
variable {G : Cc} {W : WX} {o o1 : Gh} {c c1 : Cs} {ρ : En} {S : Sto} {σ : L2.St} {H H1 : Hp} {pos p xp cp np ap tp : Pos} {hx : K5} {i : Nat} {n : Str} {Q : VK}
theorem Cc.Ok.heldX {X : Cx} (k : G.Ok X W) (hh : G.hot = some hx) : Held X hx := k.held hx hh
theorem a9u {k : Exc → Sto → R T} (rs : RS G.K o c ρ S σ H) (ps : PostE G W o c ρ σ H (b5X hx i k ρ S) Q) : σ[i]? = some (some (.ref hx.a)) ∧ ∃ e, PySem.W.nsIn G.K mainGlobals e.cls = some (some (.ref hx.C)) ∧ FldR H hx.d e ∧ C5 e.cls = true ∧ PostE G W o c ρ σ H (k e S) Q := by
 unfold b5X at ps
 split at ps
 ·rename_i a C d e he
  by_cases q : a = hx.a ∧ C = hx.C ∧ d = hx.d ∧ C5 e.cls = true
  ·rw [if_pos q] at ps
   obtain ⟨rfl, rfl, rfl, q4⟩ := q
   obtain ⟨v, e1, rfl, r2, r3⟩ := rs.slot i _ he
   exact ⟨e1, e, r2, r3, q4, ps⟩
  ·rw [if_neg q] at ps; exact ps.elim
 ·exact ps.elim
theorem b5l (i : Nat) {cl : Str} (A : a0Y G.K) (F : N5 G.K G.mg cl) (hh : G.hot = some hx) (hm : G.mg "isinstance" = none) (hN : G.N[i]? = some n := by rfl) (hv : Vis G.sc n := by first | exact Or.inl rfl | exact Or.inr (Or.inl rfl) | exact Or.inr (Or.inr rfl)) (hd : (n == ("__debug__" : Str)) = false := by decide) (hcd : (n == ("__classdict__" : Str)) = false := by decide)
  (hg : G.sc.names.lookup ("isinstance" : Str) = some .globalImplicit := by rfl) (hgT : G.sc.names.lookup cl = some .globalImplicit := by rfl) (hdT : (cl == ("__debug__" : Str)) = false := by decide)
  (he : ∀ env : PySem.Env, starEach [.Name n xp, .Name cl cp] env = (false, eval (.Name n xp) env) :: starEach [.Name cl cp] env := by intro _; rfl) (hpl : ∀ env : PySem.Env, (backTo pos (starEach [.Name cl cp] env)).any (·.1) = false := by intro _; rfl)
  (he2 : ∀ env : PySem.Env, starEach [.Name cl cp] env = (false, eval (.Name cl cp) env) :: starEach [] env := by intro _; rfl) : EV G (.Call (.Name "isinstance" p) [.Name n xp, .Name cl cp] [] pos) (c0j hx i cl) := by
 obtain ⟨cv, u, h1, h2, h3⟩ := F.ex
 refine ⟨fun W => tCB (c3k G.K hx) (tCons (tVar i) (tCons (tC cv) tNil)), fun X W k => ?_, fun W σ H ρ S o c Q nt rs ps => ?_⟩
 ·have hc := b32 (k.heldX hh)
  rw [k.K] at hc
  exact pe_callB hc (k.gl hg) (k.m hm) (by first | exact boot_isinstance | exact PyProof.Rows.boot_isinstance | rfl) (pa_cons (pe_var (k.at hN) (k.vis hv) hd hcd) (pa_cons (b5h k h1 hgT hdT) pa_nil (he2 _)) (he _)) (by decide) (by decide) (he _) (hpl _)
 ·obtain ⟨q1, e, q2, q3, q4, q5⟩ := a9u rs ps
  exact ⟨_, q1, cv, u, _, rfl, h2, q3.dok, A.ex _ _ q4 q2, h3 _ _ q4 q2, f7 rs q5 (.bl _)⟩
inductive ClsL (G : Cc) : List Expr → List Str → Prop
 | nil : ClsL G [] []
 | cons {cl : Str} {cp : Pos} {es : List Expr} {cs : List Str} (F : N5 G.K G.mg cl) (hg : G.sc.names.lookup cl = some .globalImplicit) (hd : (cl == ("__debug__" : Str)) = false) (he : ∀ env : PySem.Env, starEach (.Name cl cp :: es) env = (false, eval (.Name cl cp) env) :: starEach es env) (r : ClsL G es cs) : ClsL G (.Name cl cp :: es) (cl :: cs)
theorem b4n {es : List Expr} {cs : List Str} (h : ClsL G es cs) : ∃ (cvs : List V) (us : List Value) (t : TA), cvs.length = cs.length ∧ (∀ σ H Q, t σ H Q ↔ Q cvs H) ∧ (∀ X W, G.Ok X W → PA X es t) ∧ Paired ClsV cvs us ∧
  ∀ x D, C5 x = true → PySem.W.nsIn G.K mainGlobals x = some (some (.ref D)) → PySem.W.kitAny G.K (.ref D) us = some (cs.any (d9 x)) := by
 induction h with
 | nil => exact ⟨[], [], tNil, rfl, fun _ _ _ => Iff.rfl, fun _ _ _ => pa_nil, .nil, fun _ _ _ _ => rfl⟩
 | @cons cl cp es cs F hg hd he r ih =>
  obtain ⟨cvs, us, t, z, q1, q2, q3, q4⟩ := ih
  obtain ⟨cv, u, h1, h2, h3⟩ := F.ex
  refine ⟨cv :: cvs, u :: us, tCons (tC cv) t, by simp [z], fun σ H Q => ?_, fun X W k => pa_cons (b5h k h1 hg hd) (q2 X W k) (he _), .cons h2 q3, fun x D hx hm => ?_⟩
  ·show t σ H (fun xs H2 => Q (cv :: xs) H2) ↔ _
   rw [q1]
  ·refine kitAny_cons (h3 x D hx hm) (fun e => ?_) fun e => ?_
   ·rw [q4 x D hx hm, List.any_cons, e, Bool.false_or]
   ·rw [List.any_cons, e, Bool.true_or]
theorem b1R (i : Nat) {k0 : Nat} {es : List Expr} {cs : List Str} (A : a0Y G.K) (L : ClsL G es cs) (hh : G.hot = some hx) (hm : G.mg "isinstance" = none) (hN : G.N[i]? = some n := by rfl) (hv : Vis G.sc n := by first | exact Or.inl rfl | exact Or.inr (Or.inl rfl) | exact Or.inr (Or.inr rfl)) (hd : (n == ("__debug__" : Str)) = false := by decide) (hcd : (n == ("__classdict__" : Str)) = false := by decide)
  (hl : cs.length ≤ sizeLine := by decide) (hg : G.sc.names.lookup ("isinstance" : Str) = some .globalImplicit := by rfl)
  (he : ∀ env : PySem.Env, starEach [.Name n xp, .Tuple es k0 tp] env = (false, eval (.Name n xp) env) :: starEach [.Tuple es k0 tp] env := by intro _; rfl) (hpl : ∀ env : PySem.Env, (backTo pos (starEach [.Tuple es k0 tp] env)).any (·.1) = false := by intro _; rfl)
  (he2 : ∀ env : PySem.Env, starEach [.Tuple es k0 tp] env = (false, eval (.Tuple es k0 tp) env) :: starEach [] env := by intro _; rfl) : EV G (.Call (.Name "isinstance" p) [.Name n xp, .Tuple es k0 tp] [] pos) (b3W hx i cs) := by
 obtain ⟨cvs, us, t, z, q1, q2, q3, q4⟩ := b4n L
 refine ⟨fun W => tCB (b9K G.K hx) (tCons (tVar i) (tCons (tTup t) tNil)), fun X W k => ?_, fun W σ H ρ S o c Q nt rs ps => ?_⟩
 ·have hc := b1P (k.heldX hh)
  rw [k.K] at hc
  exact pe_callB hc (k.gl hg) (k.m hm) (by first | exact boot_isinstance | exact PyProof.Rows.boot_isinstance | rfl) (pa_cons (pe_var (k.at hN) (k.vis hv) hd hcd) (pa_cons (pe_tup (q2 X W k)) pa_nil (he2 _)) (he _)) (by decide) (by decide) (he _) (hpl _)
 ·obtain ⟨r1, e, r2, r3, r4, r5⟩ := a9u rs ps
  refine ⟨_, r1, (q1 _ _ _).mpr ⟨by rw [z]; exact hl, fun tp hn => ?_⟩⟩
  refine ⟨tp, cvs, us, _, rfl, upd_same, q3, ?_, A.ex _ _ r4 r2, q4 _ _ r4 r2, ?_⟩
  ·have := r3.dok
   cases ed : hx.d with
   | none => trivial
   | some dd =>
    rw [ed] at this
    obtain ⟨fs, h⟩ := this
    exact ⟨fs, by rw [upd_ne (fun z => by subst z; rw [hn] at h; cases h)]; exact h⟩
  ·exact r5 _ _ _ _ (Step.laid hn) (rs.laid hn) (.bl _)

end
end BV
namespace BV
open PySem PySem.Spec PyProof.Rows L2
open He (ba eqO eqO_ok ga)

def a4D (i : Nat) : Fl → Fl
 | .nx ρ S => .nx (ρ.set i none) S
 | .bk ρ S => .bk (ρ.set i none) S
 | .ct ρ S => .ct (ρ.set i none) S
 | .ex _ _ _ => .bad
 | .rt t S => .rt t S
 | .bad => .bad
noncomputable def a1l (g : SS) (c : Str) (i : Nat) (su : K5 → SS) : SS := fun ρ S => match g ρ S with
 | .ex e ρ1 S1 => if C5 e.cls = true then (if d9 e.cls c = true then uni .bad (fun hx => a4D i (su hx (ρ1.set i (some (.exn hx.a hx.C hx.d e))) S1)) else .ex e ρ1 S1) else .bad
 | r => r
section
variable {G : Cc} {W : WX} {o o1 : Gh} {c c1 : Cs} {ρ : En} {S : Sto} {σ : L2.St} {H H1 : Hp} {pos p xp cp np ap tp : Pos} {hx : K5} {i : Nat} {n : Str} {Q : VK}
theorem RS.gone {K : PySem.W.Frag} (rs : RS K o c ρ S σ H) : RS K o c (ρ.set i none) S (σ.set i none) H := ⟨by rw [List.length_set, List.length_set]; exact rs.len, fun j t e => by
 by_cases hj : i = j
 ·subst hj
  rw [List.getElem?_set] at e
  simp only [if_true] at e
  split at e <;> cases e
 ·rw [List.getElem?_set_ne hj] at e ⊢
  exact rs.slot j t e, rs.cs⟩
theorem RS.setX {K : PySem.W.Frag} {v : V} {a C : Addr} {d : Option Addr} {e : Exc} (rs : RS K o c ρ S σ H) (r : RepT K o c H (.slot i) v (.exn a C d e)) : RS K o c (ρ.set i (some (.exn a C d e))) S (σ.set i (some v)) H := ⟨by rw [List.length_set, List.length_set]; exact rs.len, fun j t e' => by
 by_cases hj : i = j
 ·subst hj
  by_cases hl : i < ρ.length
  ·rw [List.getElem?_set_self hl] at e'
   cases e'
   exact ⟨v, List.getElem?_set_self (by rw [← rs.len]; exact hl), r⟩
  ·rw [List.getElem?_eq_none (by rw [List.length_set]; omega)] at e'; cases e'
 ·rw [List.getElem?_set_ne hj] at e' ⊢
  exact rs.slot j t e', rs.cs⟩
theorem a9I {r : Fl} {D : Ends} {hx : K5} (p : PostS G W o c H (a4D i r) D) : PostS (G.suite hx) (fun _ _ _ _ => False) o c H r { nx := fun σ' H' => D.nx (σ'.set i none) H', rt := D.rt, bk := fun σ' H' => D.bk (σ'.set i none) H', ct := fun σ' H' => D.ct (σ'.set i none) H' } := by
 cases r with
 | nx ρ2 S2 => exact fun σ2 o2 c2 H2 s nt rs => p _ o2 c2 H2 s nt rs.gone
 | bk ρ2 S2 => exact fun σ2 o2 c2 H2 s nt rs => p _ o2 c2 H2 s nt rs.gone
 | ct ρ2 S2 => exact fun σ2 o2 c2 H2 s nt rs => p _ o2 c2 H2 s nt rs.gone
 | rt t S2 => exact p
 | ex _ _ _ => exact p.elim
 | bad => exact p.elim
theorem b4X (i : Nat) {cl : Str} {pos' : Pos} {body suite : List Stmt} {b₀ : Stmt} {g : SS} {su : K5 → SS} (hb : SVs G.tr body g) (hE : c0I G.K G.mg cl) (hs : ∀ hx : K5, SVs (G.suite hx) (b₀ :: suite) (su hx)) (hN : G.N[i]? = some n := by rfl) (hln : G.sc.names.lookup n = some .local := by rfl)
  (hg : G.sc.names.lookup cl = some .globalImplicit := by rfl) (hdb : (cl == ("__debug__" : Str)) = false := by decide) (nd : G.N.Nodup := by (try dsimp only [Cc.blk]); decide +kernel) (hcm : G.hot = none := by rfl) (htop : G.top = true := by rfl) : SV G (.Try body [.ExceptHandler (some (.Name cl np)) (some n) (b₀ :: suite) pos'] [] [] pos) (a1l g cl i su) := by
 obtain ⟨tb, pb, qb⟩ := hb
 obtain ⟨Cv, hcm', hE'⟩ := hE.ex
 let ts : Addr → Value → Option Addr → TS := fun a cls d => match cls with
  | .ref C => (hs ⟨a, C, d⟩).choose fun _ _ _ _ => False
  | _ => fun _ _ _ => False
 refine ⟨fun W D σ H => tb (wAs G.K (.ref Cv) i ts W D) D σ H, fun X W k => ?_, fun W σ H ρ S o c D nt rs ps => ?_⟩
 ·obtain ⟨t1, t2⟩ := k.top htop
  have su' : ∀ (a : Addr) (oe : Obj) (cls : Value) (d : Option Addr) (pn : List (Addr × Obj)), Zc cls d oe → (∃ vs, oe.data = .fields vs) → PSs (X.suite a ((a, oe) :: pn)) (b₀ :: suite) (ts a cls d) := fun a oe cls d pn hz hf => by
   cases cls with
   | ref C => exact (hs ⟨a, C, d⟩).choose_spec.1 _ _ (b7B k hz hf)
   | _ => exact ⟨fun _ _ _ _ _ _ z => z.elim⟩
  have hK := k.K
  cases hcn : G.cn with
  | true =>
   have tk : L2N.Takes X W := k.tk.n
   have := L2N.ps_try_as (pos := pos) (pos' := pos') (np := np) (ts := ts) (tb := tb) t1 t2 (k.nd nd) (k.at hN) (by show X.env.scope.names.lookup n = _; rw [k.sc]; exact hln) ⟨k.gl hg, hdb, .inl (k.m hcm')⟩ tk (fun W' pn xe tk po => pb _ _ (c3M k hcm (by rw [hcn]; exact tk) po))
    (fun a oe cls d pn hz hf => su' a oe cls d pn hz.zc hf)
   rw [hK] at this
   exact this
  | false =>
   have tk : L2.Takes X W := by
    have := k.tk
    rw [hcn] at this
    exact this
   have := L2.ps_try_as (pos := pos) (pos' := pos') (np := np) (ts := ts) (tb := tb) t1 t2 (k.nd nd) (k.at hN) (by show X.env.scope.names.lookup n = _; rw [k.sc]; exact hln) ⟨k.gl hg, hdb, .inl (k.m hcm')⟩ tk (fun W' pn xe tk po => pb _ _ (c3M k hcm (by rw [hcn]; exact tk) po)) su'
   rw [hK] at this
   exact this
 ·refine qb _ σ H ρ S o c D nt rs ?_
  unfold a1l at ps
  cases eg : g ρ S with
  | ex e ρ1 S1 =>
   rw [eg] at ps
   intro cls d σ' o' c' H' s' nt' r' x
   simp only at ps
   by_cases hx : C5 e.cls = true
   ·rw [if_pos hx] at ps
    obtain ⟨C, rfl, hm, rest⟩ := id x
    obtain ⟨q1, q2⟩ := hE' _ _ hx hm
    refine ⟨d9 e.cls cl, q2, fun hb a na => ?_, fun hb => ?_⟩
    ·rw [if_pos hb] at ps
     rcases b9i Fl.bad (fun hx => a4D i (su hx (ρ1.set i (some (.exn hx.a hx.C hx.d e))) S1)) with h | h
     ·rw [← h ⟨a, C, d⟩] at ps
      have hF : FldR H' d e := by unfold FldR; exact rest
      refine (hs ⟨a, C, d⟩).choose_spec.2 _ (σ'.set i (some (.ref a))) H' (ρ1.set i (some (.exn a C d e))) S1 o' c' _ nt' (r'.setX ⟨rfl, q1, hF⟩) (a9I (ps.step s'))
     ·rw [h] at ps; exact ps.elim
    ·rw [if_neg (by rw [hb]; exact Bool.false_ne_true)] at ps
     exact ps.step s' _ _ σ' o' c' H' Step.refl nt' r' x
   ·rw [if_neg hx] at ps
    exact ps.elim
  | nx _ _ => rw [eg] at ps; exact ps
  | bk _ _ => rw [eg] at ps; exact ps
  | ct _ _ => rw [eg] at ps; exact ps
  | rt _ _ => rw [eg] at ps; exact ps
  | bad => rw [eg] at ps; exact ps
end

structure FnX (P : Program) (w : World) (K : PySem.W.Frag) (mg : Str → Option Value) (base : Heap) (cn : Bool) (k : Nat) (f : Addr) (fd : FuncData) (ps : List Str) (sp : Addr × Obj → Sp) : Prop where
 len : ∀ p vs H Q E, sp p vs H Q E → vs.length = ps.length
 run : ∀ (A : Around) (out : List PySem.Env) (s : Shared) (H : Hp) (as : Args) (us : List Value) (vs : List V) (Q : VK) (E : XK) (p : Addr × Obj), L2H.RoomH k A → c0i A p → L2H.PinOk out H s p → Env0 P w K mg base A out s H → BindsTo s fd as (ps.zip us) → Vals vs us → sp p vs H Q E →
  codeAny (model P w) A (.call (.ref f) as) (L2.CR (CXg cn P w) out P w H s Q E) s
def spX (K : PySem.W.Frag) (mg : Str → Option Value) (n : Nat) (f : K5 → Fn) : Addr × Obj → Sp := fun p vs H Q E => ∃ hx : K5, p.1 = hx.a ∧ Zc (.ref hx.C) hx.d p.2 ∧ spD K mg n (f hx) vs H Q E
structure c0Q (P : Program) (w : World) (K : PySem.W.Frag) (mg : Str → Option Value) (base : Heap) (cn : Bool) (k : Nat) (x : Str) (n : Nat) (f : K5 → Fn) : Prop where
 ex : ∃ (a : Addr) (fd : FuncData) (ps : List Str), mg x = some (.ref a) ∧ PySem.W.keepIn K (.ref a) = true ∧ Binds K fd ps [] ∧ ps.length = n ∧ FnX P w K mg base cn k a fd ps (spX K mg n f)
section
variable {P : Program} {w : World} {K : PySem.W.Frag} {mg : Str → Option Value} {base : Heap} {cn : Bool} {k : Nat} {x qual : Str} {st : Stmt} {f : Addr} {fd : FuncData} {N ps : List Str} {sc : Scope}
theorem b8y {params : Arguments} {body : List Stmt} {dV kV doc pm cdv ct oc : Value} {an od : Option Addr} {osl : Array (Option Value)} {sp : Addr × Obj → Sp} {nm : Str}
  (lk : K.lookup f = some ⟨oc, od, .func (PySem.W.fnOf nm qual params body sc dV kV doc pm an cdv ct), osl⟩) (hcd : PySem.W.codeIn K cdv qual = true) (Sc : FnScope N ps sc) (len : ∀ p vs H Q E, sp p vs H Q E → vs.length = ps.length)
  (hbody : ∀ (A : Around) (out : List PySem.Env) (s : Shared) (H : Hp) (vs : List V) (Q : VK) (E : XK) (p : Addr × Obj), c0i A p → L2H.RoomH k (A.deeper (envOfC qual sc s.heap.objs.size f cdv)) → sp p vs H Q E →
   ∃ t, PSs (L2H.cxH (CXg cn P w) P w K mg base N qual sc f cdv A out s H E p) body t ∧ t { nx := fun _ H' => Q .non H', rt := Q } (L2.start N vs) H) :
  FnX P w K mg base cn (k + 1) f (PySem.W.fnOf nm qual params body sc dV kV doc pm an cdv ct) ps sp := by
 refine ⟨len, ?_⟩
 intro A out s H as us vs Q E p room hot pin e0 hb r h
 have vl := len _ _ _ _ _ h
 have hK : K.In s.heap := (e0.mod.kin).keeps (fun b o e => And.left (e0.bs b o e))
 have hL : s.heap.NoLimit := (e0.mod.nolimit).keeps (fun b o e => And.left (e0.bs b o e))
 have kinds : ∀ z ∈ ps.zip us, sc.names.lookup z.1 = some .local ∨ (sc.names.lookup z.1 = some .cell ∧ ((cellsFrom (s.heap.objs.size + 1) sc.names []).lookup z.1).isSome = true) := by
  rintro ⟨y, v⟩ hy
  exact (Sc.par y (List.of_mem_zip hy).1).imp id fun q => ⟨q, PySem.W.cellsFrom_some _ _ _ (.inl q)⟩
 refine codeAny_call_function room.depth (hK _ _ lk) rfl Sc.co Sc.gen rfl (PySem.W.codeRec_of hK hcd) (hb _ _ _ _ (wpAny_newFunctionEnv_cells Sc.kind kinds ?_))
 rintro env rfl s1 y
 refine ⟨hL.keeps y.toInCall.keep, codeAny_func ?_⟩
 obtain ⟨t, pt, qt⟩ := hbody A out s H vs Q E p hot (room.deeper _) h
 refine wpAny_mono (pt.run [] s1 (L2.start N vs) H _ (L2H.inv_startH Sc pin e0 vl r y) qt) (fun fl s' z => ?_) (fun _ _ z => z)
 cases fl with
 | ret u =>
  obtain ⟨v, σ', H', J, rv, q⟩ := z
  exact ⟨v, H', J.os, J.bare, J.base, J.hok, rv, q⟩
 | next =>
  obtain ⟨σ', H', J, q⟩ := z
  exact ⟨.non, H', J.os, J.bare, J.base, J.hok, rfl, q⟩
 | brk => exact z.choose_spec.choose_spec.2.elim
 | cont => exact z.choose_spec.choose_spec.2.elim
theorem b6d {G : Cc} {g : SS} {X : Cx} {vs : List V} {H : Hp} {Q : VK} {E : XK} (hG : G.N = N) (h : SVs G (defBody st) g) (ok : G.Ok X (fun cls d _ H => E cls d H)) (hsp : spD G.K G.mg ps.length (fnF N g) vs H Q E) (hlen : ps.length ≤ N.length) :
  ∃ t, PSs X (defBody st) t ∧ t { nx := fun _ H' => Q .non H', rt := Q } (L2.start N vs) H := by
 obtain ⟨t, p, q⟩ := h
 obtain ⟨hl, ts, S, o, c, rts, cl, cs, post⟩ := hsp
 refine ⟨t _, p _ _ ok, q _ (L2.start N vs) H (BV.start N ts) S o c _ ?_ ⟨?_, ?_, cs⟩ ?_⟩
 ·intro a e
  rcases cl a _ e with (h | h) | h
  ·cases h
  ·cases h
  ·exact h
 ·unfold BV.start BV.start0 L2.start
  rw [List.length_append, List.length_append, List.length_map, List.length_map, List.length_replicate, List.length_replicate, rts.1]
 ·intro i t' e
  unfold BV.start BV.start0 at e
  by_cases hi : i < ts.length
  ·rw [List.getElem?_append_left (by rw [List.length_map]; exact hi), List.getElem?_map] at e
   have hv : i < vs.length := by rw [rts.1]; exact hi
   have e1 : vs[i]? = some vs[i] := List.getElem?_eq_getElem hv
   have e2 : ts[i]? = some t' := by
    cases e3 : ts[i]? with
    | none => rw [e3] at e; cases e
    | some u => rw [e3] at e; simp only [Option.map_some, Option.some.injEq] at e; rw [e]
   obtain ⟨q1, q2⟩ := rts.2 i _ t' e1 e2
   refine ⟨vs[i], ?_, q1.anyW q2⟩
   unfold L2.start
   rw [List.getElem?_append_left (by rw [List.length_map]; exact hv), List.getElem?_map, e1]
   rfl
  ·rw [List.getElem?_append_right (by rw [List.length_map]; omega)] at e
   rw [List.getElem?_replicate] at e
   split at e <;> cases e
 ·unfold fnF fnL at post
  cases e : g (BV.start N ts) S with
  | nx ρ' S' =>
   rw [e] at post
   intro σ' o' c' H' s' nt' rs'
   exact post .non (s9 A8 o') c' H' (J2 cl s') (rs'.cs.drop fun _ => rfl) a1W (Rep.non)
  | rt t0 S' =>
   rw [e] at post
   intro v o' c' H' s' cs' r'
   exact post v (s9 A8 o') c' H' (J2 cl s') (cs'.drop fun _ => rfl) a1W (r'.drop cs'.trk rfl)
  | ex e' ρ' S' =>
   rw [e] at post
   intro cls d σ' o' c' H' s' nt' rs' x
   exact post cls d (s9 A8 o') c' H' (J2 cl s') (rs'.cs.drop fun _ => rfl) a1W (fun a h => nt' a (F4 h).1) x
  | bk ρ' S' => rw [e] at post; exact post.elim
  | ct ρ' S' => rw [e] at post; exact post.elim
  | bad => rw [e] at post; exact post.elim
theorem b8v {N : List Str} {A : Around} {out : List PySem.Env} {s : Shared} {H : Hp} {E : XK} {cdv : Value} {p : Addr × Obj} : Tk cn (L2H.cxH (CXg cn P w) P w K mg base N qual sc f cdv A out s H E p) (fun cls d _ H => E cls d H) := by
 cases cn with
 | true => exact L2N.takes_of rfl rfl rfl rfl
 | false => exact L2.takes_of rfl rfl rfl rfl
theorem c0e {g : K5 → SS} {n : Nat} (F : FunD K x qual (defArgs st) (defBody st) (defScope st) [] [] f fd) (hsc : defScope st = sc) (Sc : FnScope N ps sc) (hm : mg x = some (.ref f))
  (hb : ∀ (kV doc pm : Value) (an : Option Addr) (cdv ct : Value) (us : List Value), us.length = ps.length → bindArgs (PySem.W.fnOf x qual (defArgs st) (defBody st) (defScope st) .none kV doc pm an cdv ct) ⟨us, []⟩ = pure (ps.zip us)) (hlen : ps.length ≤ N.length) (hn : ps.length = n)
  (h : ∀ hx, SVs ⟨P, w, K, mg, base, N, sc, fun _ => true, k, false, some hx, cn, false, none⟩ (defBody st) (g hx)) : c0Q P w K mg base cn (k + 1) x n (fun hx => fnF N (g hx)) := by
 subst hsc
 subst hn
 have F' := BV.fun_of F
 refine ⟨f, fd, ps, hm, F'.kp, F.bindsN hb, rfl, ?_⟩
 obtain ⟨oc, od, kV, doc, pm, an, cdv, ct, osl, rfl, lk, hcd⟩ := F'.ex
 refine b8y lk hcd Sc (fun p vs H Q E h => by obtain ⟨hx, _, _, h⟩ := h; exact h.1) fun A out s H vs Q E p hot hr hsp => ?_
 obtain ⟨hx, e1, hz, hsp⟩ := hsp
 obtain ⟨pa, po⟩ := p
 simp only at e1
 subst e1
 have ok : (⟨P, w, K, mg, base, N, defScope st, fun _ => true, k, false, some hx, cn, false, none⟩ : Cc).Ok (L2H.cxH (CXg cn P w) P w K mg base N qual (defScope st) f cdv A out s H E (hx.a, po)) (fun cls d _ H => E cls d H) :=
  ⟨rfl, rfl, rfl, rfl, rfl, rfl, rfl, rfl, fun z => (nomatch z), hr, b8v, PassesOwn.leaving, fun z => (nomatch z), fun z => (nomatch z), fun h e => (by
   cases e
   obtain ⟨h1, vs, h2⟩ := hot
   exact ⟨po, ⟨h1, vs, h2⟩, List.mem_cons_self, hz, vs, h2⟩), fun z => (nomatch z), fun _ _ z => (nomatch z)⟩
 exact b6d rfl (h hx) ok hsp hlen
end
section
variable {X : Cx} {f : Addr} {fd : FuncData} {ps : List Str} {x : Str} {q pos : Pos} {e : Expr} {es : List Expr} {t : TA} {k n : Nat} {g : K5 → Fn} {E : L2.St → XK} {hx : K5}
theorem b4E {cn : Bool} (F : FnX X.prog X.w X.K X.mg X.base cn k f fd ps (spX X.K X.mg n g)) (hr : L2H.RoomH k X.A) (hh : Held X hx) (hg : Gl X x) (hm : X.mg x = some (.ref f)) (hk : PySem.W.keepIn X.K (.ref f) = true) (hb : Binds X.K fd ps []) (px : ∀ σ, PassesAt (CXg cn X.prog X.w) X σ (E σ))
  (ha : PA X (e :: es) t) (hdb : (x == ("__debug__" : Str)) = false) (he : starEach (e :: es) X.env = (false, eval e X.env) :: starEach es X.env) (hpl : (backTo pos (starEach es X.env)).any (·.1) = false) : PE X (.Call (.Name x q) (e :: es) [] pos) (tCallS (spD X.K X.mg n (g hx)) E t) := by
 refine ⟨fun pins s σ H Q I h => wpAny_Call_Name_kw (ld_glob I hg hm ?_ hdb)⟩
 refine PySem.W.callWith_K (h₀ := X.base) I.ok.mod.kin hk (thn (ha.run pos pins s σ H _ I h) ?_) he hpl
 rintro us s1 ⟨vs, H1, J, r, z⟩
 refine ⟨J.kIn, ?_⟩
 obtain ⟨oe, hot, hmem, hz, hd⟩ := hh
 have sp' : spX X.K X.mg n g (hx.a, oe) vs H1 Q (E σ) := ⟨hx, rfl, hz, z⟩
 have hl : us.length = ps.length := r.length.symm.trans (F.len _ _ _ _ _ sp')
 have b := hb s1 us J.kIn (by rw [List.append_nil]; exact hl)
 rw [List.append_nil] at b
 obtain ⟨g1, g2, g3, g4, g5⟩ := J.pin (hx.a, oe) (List.mem_append_left _ hmem)
 have pin : L2H.PinOk X.stack H1 s1 (hx.a, oe) := ⟨g1, g2, fun z => (List.mem_cons.mp (J.stkSub _ z)).elim g3 g4, g5⟩
 refine wpAny_call (codeAny_mono (F.run X.A X.stack s1 H1 ⟨us, []⟩ us vs Q (E σ) (hx.a, oe) hr hot pin J.env0 b r sp') ?_)
 intro r s' y
 match r with
 | .error e => exact px σ pins H1 s1 e s' J y
 | .ok (.ret u) => exact J.after y
 | .ok .next => exact y.elim
 | .ok .brk => exact y.elim
 | .ok .cont => exact y.elim
end
section
variable {G : Cc} {pos : Pos} {e : Expr} {es : List Expr} {hx : K5}
theorem b30 {x : Str} {p : Pos} {j n : Nat} {f : K5 → Fn} {fs : SA} (F : c0Q G.P G.w G.K G.mg G.base G.cn j x n f) (ha : AVn G (e :: es) fs n) (hh : G.hot = some hx) (hj : j ≤ G.k := by (try dsimp only [Cc.suite]); decide) (hg : G.sc.names.lookup x = some .globalImplicit := by rfl) (hdb : (x == ("__debug__" : Str)) = false := by decide)
  (he : ∀ env : PySem.Env, starEach (e :: es) env = (false, eval e env) :: starEach es env := by intro _; rfl) (hpl : ∀ env : PySem.Env, (backTo pos (starEach es env)).any (·.1) = false := by intro _; rfl) : EV G (.Call (.Name x p) (e :: es) [] pos) (p6 (f hx) fs) := by
 obtain ⟨⟨t, p1, q1⟩, hl⟩ := ha
 obtain ⟨a, fd, ps, hm, hk, hb, hn, hF⟩ := F.ex
 refine ⟨fun W => tCallS (spD G.K G.mg n (f hx)) (WE W) (t W), fun X W k => ?_, fun W => b42 (q1 W) hl⟩
 have hF' : FnX X.prog X.w X.K X.mg X.base G.cn j a fd ps (spX X.K X.mg n f) := by rw [k.P, k.w, k.K, k.mg, k.base]; exact hF
 have := b4E (q := p) (hx := hx) hF' (k.room.mono hj) (k.heldX hh) (k.gl hg) (k.m hm) (by rw [k.K]; exact hk) (by rw [k.K]; exact hb) (fun σ => b1s k.tk σ) (p1 X W k) hdb (he _) (hpl _)
 rw [k.K, k.mg] at this
 exact this
end

section
variable {G : Cc} {pos : Pos}
end
def M8 (d : D) : List D → Option Nat
 | [] => none
 | e :: r => if PyData.eqv e d = true then some 0 else (M8 d r).map (· + 1)
theorem a3Z {d : D} : ∀ {ds : List D} {j : Nat}, M8 d ds = some j → ∃ z, ds[j]? = some z ∧ PyData.eqv z d = true ∧ ∀ (m : Nat) (z' : D), m < j → ds[m]? = some z' → PyData.eqv z' d = false := by
 intro ds
 induction ds with
 | nil => intro j h; cases h
 | cons e r ih =>
  intro j h
  unfold M8 at h
  by_cases q : PyData.eqv e d = true
  ·rw [if_pos q] at h
   cases h
   exact ⟨e, rfl, q, fun m z' hm => absurd hm (Nat.not_lt_zero m)⟩
  ·rw [if_neg q] at h
   cases e1 : M8 d r with
   | none => rw [e1] at h; cases h
   | some j' =>
    rw [e1] at h
    cases h
    obtain ⟨z, h1, h2, h3⟩ := ih e1
    refine ⟨z, by simpa using h1, h2, fun m z' hm hz => ?_⟩
    cases m with
    | zero =>
     simp only [List.getElem?_cons_zero, Option.some.injEq] at hz
     subst hz
     exact Bool.eq_false_iff.mpr q
    | succ m => exact h3 m z' (by have : m + 1 < j' + 1 := hm; omega) (by simpa using hz)
def a24 : D → List D → Option T
 | .list ds, [d] => if N3 (.list ds) && N3 d then (M8 d ds).map fun j => .val (.int (j : Nat)) else none
 | _, _ => none
section
variable {G : Cc}
theorem b2x : MD G "list" "index" a24 := ⟨"list.index", _, PySem.F.plainAttrs_list, PySem.F.slot_list_index, PySem.F.type_list_index, fun X W k => by have := mt_indexD (X := X) (by have := k.room.un; omega); rw [k.K] at this; exact this, by
 intro G' W o c ρ S σ H x d vs ds t Q hK rs r ra e p
 rw [← hK] at r ra ⊢
 unfold a24 at e
 split at e
 ·split at e
  ·rename_i hh
   cases e1 : M8 _ _ with
   | none => rw [e1] at e; cases e
   | some j =>
    rw [e1] at e
    cases e
    rw [Bool.and_eq_true] at hh
    have n1 := hh.1
    have n2 := hh.2
    unfold N3 at n1 n2
    rw [Bool.and_eq_true] at n1 n2
    obtain ⟨v, rfl, rv⟩ := ra.one
    obtain ⟨a, ws, e1', h1, _⟩ := r.lstV
    subst e1'
    obtain ⟨z, z1, z2, z3⟩ := a3Z e1
    exact ⟨a, v, _, _, j, z, rfl, rfl, r.dp n1.1, rv.dp n2.1, q8 r hh.1, q8 rv hh.2, z1, z2, z3, f7 (hK ▸ rs) p (.int _)⟩
  ·cases e
 ·cases e⟩
end
end BV
namespace BV
open PySem PySem.Spec PyProof.Rows L2

def c2I (K : PySem.W.Frag) : List V → Hp → VK → Prop := fun vs H Q => ∃ (a : Addr) (us : List V) (d : D) (ds : List D), vs = [V.ref a] ∧ SqL K H a us ∧ DpAll K H us (d :: ds) ∧ W.AlikeAll (d :: ds) ∧ PyData.depthAll (d :: ds) ≤ 20 ∧
 ∀ (i : Nat) (v : V), us[i]? = some v → (d :: ds)[i]? = some (W.minD d ds) → Q v H
section
variable {X : Cx}
theorem b7K (hc : X.calm = true) (hu : X.A.units + 64 < cLine) : CallR X (.builtin "min") (c2I X.K) := by
 intro pins s σ H vs us Q I r h
 obtain ⟨a, xs, d, ds, rfl, hs, hd, ha, hdp, q⟩ := h
 obtain ⟨its, rv, hl, _⟩ := I.list hs
 rw [Vals.ref1 r]
 obtain ⟨as, hr⟩ := Dp.readsAll I (d :: ds) xs its hd rv
 refine W.min_list_data (as := as) (I.ok.hd hc) hl.isList (by simpa using hr) ha (by omega) fun i v h' tk bs e rd k => ?_
 have e' : its[i]? = some v := by simpa using e
 obtain ⟨bs2, r2, hi, _, _⟩   := W.readsAll_at hr i v e'
 obtain ⟨e3, _⟩ := Reads.unique (PyProof.Rows.Reads.keeps k r2) _ _ rd
 obtain ⟨u, hu1, hu2⟩ : ∃ u, xs[i]? = some u ∧ RelV u v := by
  have hl2 := (List.getElem?_eq_some_iff.mp e').1
  have hx : i < xs.length := by rw [rv.length]; exact hl2
  obtain ⟨w, h1, h2⟩ := Vals.get rv (List.getElem?_eq_getElem hx)
  rw [e'] at h1
  cases h1
  exact ⟨_, List.getElem?_eq_getElem hx, h2⟩
 exact ⟨u, H, I.kept k, hu2, q i u hu1 (by rw [List.getElem?_eq_getElem hi]; rw [List.getD_eq_getElem?_getD, List.getElem?_eq_getElem hi] at e3; simpa using e3)⟩
end
section
variable {G : Cc}
end
end BV
namespace BV
open PySem PySem.Spec PyProof.Rows L2
def b8e : D → Bool
 | .tuple [.int _, .tuple [.int _, .int _]] => true
 | _ => false
theorem b59 {d : D} (h : b8e d = true) : ∃ a b c : Int, d = .tuple [.int a, .tuple [.int b, .int c]] := by
 unfold b8e at h
 split at h
 ·exact ⟨_, _, _, rfl⟩
 ·cases h
def b0g : List D → Option T
 | [.list (d :: ds)] => if (d :: ds).all b8e = true then some (.val (W.minD d ds)) else none
 | _ => none
theorem b6D {xs : List D} (h : xs.all b8e = true) : W.AlikeAll xs ∧ PyData.depthAll xs ≤ 20 ∧ C4 xs = true := by
 rw [List.all_eq_true] at h
 have is : ∀ x ∈ xs, ∃ a b c : Int, x = .tuple [.int a, .tuple [.int b, .int c]] := fun x hx => b59 (h x hx)
 refine ⟨⟨fun x hx y hy => ?_, fun x hx => ?_⟩, ?_, ?_⟩
 ·obtain ⟨a, b, c, rfl⟩ := is x hx
  obtain ⟨a', b', c', rfl⟩ := is y hy
  rfl
 ·obtain ⟨a, b, c, rfl⟩ := is x hx
  intro z
  cases z
 ·clear h
  induction xs with
  | nil => simp [PyData.depthAll]
  | cons x xs ih =>
   obtain ⟨a, b, c, rfl⟩ := is _ (List.mem_cons_self ..)
   have h1 := ih fun y hy => is y (List.mem_cons_of_mem _ hy)
   simp only [PyData.depthAll, PyData.depth]
   omega
 ·clear h
  induction xs with
  | nil => rfl
  | cons x xs ih =>
   obtain ⟨a, b, c, rfl⟩ := is _ (List.mem_cons_self ..)
   rw [C4, ih fun y hy => is y (List.mem_cons_of_mem _ hy)]
   rfl
section
variable {G : Cc}
theorem b7H (hcm : G.hot = none := by rfl) : BF G "min" b0g := ⟨"min", _, by first | exact boot_min | exact PyProof.Rows.boot_min, fun X W k => by have := b7K (X := X) (k.calm hcm) k.units; rw [k.K] at this; exact this, by
 intro G' W o c ρ S σ H vs ds t Q hK rs r e p
 rw [← hK] at r ⊢
 unfold b0g at e
 split at e
 ·rename_i d es
  obtain ⟨v, rfl, r'⟩ := r.one
  split at e
  ·rename_i hh
   cases e
   obtain ⟨a, us, e1, h1, _, z1, ra⟩ := r'.lstV
   subst e1
   obtain ⟨h2, h3, h4⟩ := b6D hh
   refine ⟨a, us, d, es, rfl, .inl (.of h1), ra.dp h4, h2, h3, fun i v hv hi => ?_⟩
   obtain ⟨v', e5, rv⟩ := ra.get hi
   rw [hv] at e5
   cases e5
   exact f7 (hK ▸ rs) p rv
  ·cases e
 ·cases e⟩
end
end BV
namespace BV
open PySem PySem.Spec PyProof.Rows L2

section
variable {X : Cx} {pins : List (Addr × Obj)} {σ : L2.St} {H : Hp} {s : Shared} {a b : Addr} {v d : V} {u r : Value} {A : Around} {E : Value → Shared → Prop} {kvs : List (List Int × V)} {xs : List (List Int × Addr × Value)} {k : List Int}
theorem b2u {Q : Value → Shared → Prop} (hu : A.units + 1 < cLine) (I : Inv X pins σ H s) (e : HX H a xs) (q : KX X.K H kvs xs) (eb : SqT X.K H b (k.map V.int)) (l : valV kvs k = some v) (h : ∀ w' s', Inv X pins σ H s' → RelV v w' → Q w' s') :
  wpAny (model X.prog X.w) A (getItem (.ref a) (.ref b)) Q E s := by
 have z := q.val k
 rw [l] at z
 cases hf : atKey xs k with
 | none => rw [hf] at z; exact z.elim
 | some p =>
  rw [hf] at z
  exact wpAny_getItem_heap (tupleKind_room_in1 hu) (b8k I eb) (dX I e q) hf (h _ _ (I.tok _) z)
def c0R (K : PySem.W.Frag) : R2 := fun x y H Q => ∃ (a b : Addr) (kvs : List (List Int × V)) (xs : List (List Int × Addr × Value)) (k : List Int) (v : V), x = .ref a ∧ y = .ref b ∧ HX H a xs ∧ KX K H kvs xs ∧ SqT K H b (k.map V.int) ∧ valV kvs k = some v ∧ Q v H
theorem c3P (hu : X.A.units + 1 < cLine) : IxR X (c0R X.K) := by
 intro value slice pins s σ H x y v u Q I rx ry h hs
 obtain ⟨a, b, kvs, xs, k, w, rfl, rfl, e, g, eb, l, q⟩ := h
 cases (show v = Value.ref a from rx)
 cases (show u = Value.ref b from ry)
 have hT : s.TypeIs (.ref a) "dict" := (dX I e g).typeIs
 unfold subscriptTail
 refine wpAny_bind ?_
 rw [getitemInPython_of_ne hT.not_modules]
 refine wpAny_bind (wpAny_specialOf hT PySem.F.slot_dict_getitem.lookup ?_)
 have fin : wpAny (model X.prog X.w) X.A (subscripted slice false (Value.ref a) (Value.ref b)) (fun r s' => wpAny (model X.prog X.w) X.A (letTemporaryGo value (Value.ref a) r >>= fun _ => pure r) (EP X pins σ Q) X.xe s') X.xe s := by
  rw [hs]
  exact wpAny_operating (b2u hu I e g eb l fun w' s' I' rw' => wpAny_bind (wpAny_letTemporaryGo (wpAny_pure ⟨w, H, I', rw', q⟩)))
 first
  | exact wpAny_pure (wpAny_bind fin)
  | exact wpAny_bind (wpAny_pure (wpAny_bind fin))
  | exact wpAny_bind fin
def leP (p q : Int × Int) : Bool := !SrtO.lexB q p
theorem c4c : b8g leP where
 total a b := by
  unfold leP
  cases h : SrtO.lexB b a with
  | false => exact .inl rfl
  | true => right; rw [SrtO.lexB_no.mpr (by have := SrtO.lexB_iff.mp h; omega)]; rfl
 trans a b c h1 h2 := by
  unfold leP at *
  simp only [Bool.not_eq_true'] at *
  have x := SrtO.lexB_no.mp h1
  have y := SrtO.lexB_no.mp h2
  exact SrtO.lexB_no.mpr (by omega)
 anti a b h1 h2 := by
  unfold leP at *
  simp only [Bool.not_eq_true'] at *
  have x := SrtO.lexB_no.mp h1
  have y := SrtO.lexB_no.mp h2
  exact Prod.ext (by omega) (by omega)
abbrev b3f : List (Int × Int) → List (Int × Int) := a6Q leP
def C8 (p : Int × Int) : List Int := [p.1, p.2]
def c3a (K : PySem.W.Frag) (H : Hp) (v : V) (p : Int × Int) : Prop := ∃ b, v = .ref b ∧ SqT K H b [.int p.1, .int p.2]
def b4D (K : PySem.W.Frag) : List V → Hp → VK → Prop := fun vs H Q => ∃ (a : Addr) (kvs : List (List Int × V)) (xs : List (List Int × Addr × Value)) (ps : List (Int × Int)), vs = [.ref a] ∧ HX H a xs ∧ KX K H kvs xs ∧ (a == sysModules) = false ∧ kvs.map (·.1) = ps.map C8 ∧ ps.length ≤ 10000 ∧
 ∀ (zs : List V) (ys : List (Int × Int)) (p : Addr), Paired (c3a K H) zs ys → ys.Perm ps → ys.Pairwise (fun a b => leP a b = true) → H p = none → Q (.ref p) (upd H p (.lst zs))
theorem b2F {α β : Type} {R : α → β → Prop} : ∀ {xs : List α} {ys : List β}, Paired R xs ys → ∀ x ∈ xs, ∃ y, y ∈ ys ∧ R x y
 | _, _, .nil, x, h => nomatch h
 | _, _, .cons h t, x, hx => by
  rcases List.mem_cons.mp hx with e | hx
  ·subst e; exact ⟨_, List.mem_cons_self .., h⟩
  ·obtain ⟨y, h1, h2⟩ := b2F t x hx
   exact ⟨y, List.mem_cons_of_mem _ h1, h2⟩
theorem a6R {h : Heap} {v : Value} {x y x' y' : Int} (p : Srt.IsPair h v x y) (q : Srt.IsPair h v x' y') : x = x' ∧ y = y' := by
 obtain ⟨a, o, t, u, n, e, ho, hc, hd⟩ := p
 obtain ⟨a', o', t', u', n', e', ho', hc', hd'⟩ := q
 subst e
 cases e'
 rw [ho] at ho'
 cases ho'
 rw [hd] at hd'
 injection hd' with z1 z2
 have z3 : [Value.int x t, Value.int y u] = [Value.int x' t', Value.int y' u'] := congrArg Array.toList z1
 injection z3 with z4 z5
 injection z5 with z6 z7
 injection z4 with z8 z9
 injection z6 with z10 z11
 exact ⟨z8, z10⟩
theorem a0F {p : Int × Int} (I : Inv X pins σ H s) (e : SqT X.K H b [.int p.1, .int p.2]) : Srt.IsPair s.heap (.ref b) p.1 p.2 := by
 obtain ⟨its, r, ⟨o, h1, h2, n, h3⟩, _⟩ := I.tuple e
 obtain ⟨u1, u2, rfl, ri, rj⟩ := vals2 r
 obtain ⟨t1, rfl⟩ := ri
 obtain ⟨t2, rfl⟩ := rj
 exact ⟨b, o, t1, t2, n, rfl, h1, h2, h3⟩
open Classical in
noncomputable def Q9 (h : Heap) (v : Value) : Int × Int := if e : ∃ p : Int × Int, Srt.IsPair h v p.1 p.2 then Classical.choose e else (0, 0)
theorem a0N {h : Heap} {v : Value} {p : Int × Int} (q : Srt.IsPair h v p.1 p.2) : Q9 h v = p := by
 have e : ∃ p : Int × Int, Srt.IsPair h v p.1 p.2 := ⟨p, q⟩
 unfold Q9
 rw [dif_pos e]
 have z := a6R (Classical.choose_spec e) q
 exact Prod.ext z.1 z.2
theorem KX.refs {K : PySem.W.Frag} : ∀ {kvs : List (List Int × V)} {xs : List (List Int × Addr × Value)} {ps : List (Int × Int)}, KX K H kvs xs → kvs.map (·.1) = ps.map C8 → Paired (fun (x : List Int × Addr × Value) (p : Int × Int) => SqT K H x.2.1 [.int p.1, .int p.2]) xs ps
 | [], _, [], .nil, _ => .nil
 | [], _, _ :: _, .nil, h => by cases h
 | _ :: _, _, [], _, h => by cases h
 | kv :: kvs, _, p :: ps, .cons h t, e => by
  rw [List.map_cons, List.map_cons] at e
  injection e with e1 e2
  refine .cons ?_ (KX.refs t e2)
  have := h.2.1
  rw [e1] at this
  exact this
theorem a3Y (hcalm : X.calm = true) : CallR X (.builtin "sorted") (b4D X.K) := by
 intro pins s σ H vs us Q I r h
 obtain ⟨a, kvs, xs, ps, ex, hH, kx, lo, hks, hps, q⟩ := h
 subst ex
 obtain ⟨u, eu, rx⟩ := vals1 r
 subst eu
 cases rx
 have pr := kx.refs hks
 have hlen : xs.length = ps.length := Paired.length pr
 obtain ⟨ep, hH⟩ := hH
 obtain ⟨o, es, g1, g2, g3, g4, g5⟩ := (show ObjOk X.prog X.w H s.heap a (.ext (tdf ep a xs)) from I.hok a _ hH).1
 have hat : s.heap.DictRaw a es ep := ⟨o, g1, g2, g3⟩
 have hes : es.size = xs.length := by rw [← Array.length_toList, g4, List.length_map]
 have h16 : es.size ≤ sizeLine := by rw [hes, hlen, sizeLine_eq]; omega
 refine Calls.call_function_entry PyProof.Rows.kind_sorted PyProof.Rows.plain_sorted PyProof.Rows.entry_sorted (PyProof.Rows.args_sorted1 _) ?_
 unfold Builtin.«sorted»
 refine wpAny_bind (m := checkCount "sorted" 1 1 _) (wpAny_pure ?_)
 refine wpAny_bind (PySem.W.kdu_collect (A := X.A.in1) (PySem.KdlSrc.rawDict (es := es) (ep := ep) lo) (I.ok.hd hcalm) hat h16 fun h' tk acc hk hacc => ?_)
 have I1 : Inv X pins σ H { s with heap := h', toks := tk } := I.kept hk
 have hal : acc.toList = xs.map fun x => Value.ref x.2.1 := by
  refine List.ext_getElem? fun j => ?_
  rw [List.getElem?_map]
  cases hj : xs[j]? with
  | none =>
   have : acc.toList.length ≤ j := by
    rw [Array.length_toList, hacc.1, hes]
    exact List.getElem?_eq_none_iff.mp hj
   rw [List.getElem?_eq_none this]
   rfl
  | some x =>
   have hjl : j < xs.length := (List.getElem?_eq_some_iff.mp hj).1
   have hja : j < acc.size := by rw [hacc.1, hes]; exact hjl
   obtain ⟨hi, e2⟩ := hacc.2 j acc[j] (by rw [Array.getElem?_eq_getElem hja])
   have e3 : es.toList[j]? = some (c03 x) := by rw [g4, List.getElem?_map, hj]; rfl
   have e4 : es[j] = c03 x := by
    rw [Array.getElem?_toList, Array.getElem?_eq_getElem hi] at e3
    exact Option.some.inj e3
   rw [Array.getElem?_toList, Array.getElem?_eq_getElem hja, e2, e4]
   rfl
 have hl2 : acc.toList.length = ps.length := by rw [hal, List.length_map, hlen]
 have hz : acc.toList.length ≤ sizeLine := by rw [hl2, sizeLine_eq]; omega
 have hp : ∀ v ∈ acc.toList, ∃ (b : Addr) (p : Int × Int), v = .ref b ∧ SqT X.K H b [.int p.1, .int p.2] := fun v hv => by
  rw [hal] at hv
  obtain ⟨x, hx, rfl⟩ := List.mem_map.mp hv
  obtain ⟨p, _, hq⟩ := b2F pr x hx
  exact ⟨x.2.1, p, rfl, hq⟩
 have hkv : acc.toList.map (Q9 h') = ps := by
  rw [hal, List.map_map]
  clear hal hl2 hz hp hacc
  revert pr
  clear hlen hes h16 hat g1 g4 g5 kx hks hps hH q
  intro pr
  induction pr with
  | nil => rfl
  | @cons x p xs ps h t ih => rw [List.map_cons, ih]; congr 1; exact a0N (a0F I1 h)
 refine wpAny_bind (wpAny_newList ?_ hz)
 have hoL : (h'.push (seqObj "list" acc.toList.toArray 0)).get? h'.objs.size = some (seqObj "list" acc.toList.toArray 0) := Heap.get?_push_size _ rfl
 show wpAny _ _ _ _ _ { s with heap := h'.push (seqObj "list" acc.toList.toArray 0), toks := tk }
 have hpair : ∀ v ∈ acc.toList, Srt.IsPair (h'.push (seqObj "list" acc.toList.toArray 0)) v (Q9 h' v).1 (Q9 h' v).2 := fun v hv => by
  obtain ⟨b, p, rfl, hq⟩ := hp v hv
  have := a0F I1 hq
  rw [a0N this]
  exact this.keeps fun b o e _ => Heap.get?_push_of_some _ e
 refine wpAny_bind (wpAny_holding (wpAny_call_entry PyProof.Rows.slot_list_sort ⟨_, hoL, rfl⟩ PyProof.Rows.entry_list_sort
  (SrtO.list_sort_ord (s := { s with heap := h'.push (seqObj "list" acc.toList.toArray 0), toks := tk }) (SrtO.swo_lex (Q9 h')) hoL hz (fun h2 => SrtO.pairs_sortableO (by omega) hpair fun o e c => by
   have e' : some o = some (seqObj "list" acc.toList.toArray 0) := e.symm.trans hoL
   cases e'
   exact absurd (Value.type.inj c) (by decide)) fun out g1 g2 => ⟨_, rfl, ?_⟩) (PyProof.Rows.args_list_sort _)))
 obtain ⟨e', he'⟩ := PyProof.Rows.sortedHeap_at (vs := acc.toList) (out := out.toArray) hoL
 have hmem : ∀ v ∈ out, v ∈ acc.toList := fun v hv => g2.perm.mem_iff.mp hv
 have hz2 : (out.map backV).length ≤ sizeLine := by rw [List.length_map, g2.perm.length_eq]; exact hz
 refine wpAny_pure ⟨_, rfl, .ref h'.objs.size, upd H h'.objs.size (.lst (out.map backV)), I1.laid (t' := tk) (fun b u e => ?_) (Nat.le_refl _)
  (show ObjOk X.prog X.w _ _ _ (.lst (out.map backV)) from ⟨hz2, out, e', vals_back (fun v hv => by obtain ⟨b, _, e, _⟩ := hp v (hmem v hv); exact ⟨b, e⟩), he'⟩), rfl, q (out.map backV) (out.map (Q9 h')) _ ?_ ?_ ?_ (I1.hok.fresh (Nat.le_refl _))⟩
 ·have hb : b < h'.objs.size := Heap.lt_size e
  rw [PyProof.Rows.sortedHeap_old (Nat.ne_of_lt hb) (by rw [size_push']; exact Nat.lt_succ_of_lt hb)]
  exact Heap.get?_push_of_some _ e
 ·clear hz2 he' g1 g2
  induction out with
  | nil => exact .nil
  | cons v out ih =>
   refine .cons ?_ (ih fun v hv => hmem v (List.mem_cons_of_mem _ hv))
   obtain ⟨b, p, rfl, hq⟩ := hp v (hmem v (List.mem_cons_self ..))
   rw [a0N (a0F I1 hq)]
   exact ⟨b, rfl, hq⟩
 ·have := g2.perm.map (Q9 h')
  rw [hkv] at this
  exact this
 ·refine List.pairwise_map.mpr (g1.imp fun {x y} h => ?_)
  have h' : SrtO.lexB (Q9 h' y) (Q9 h' x) = false := h
  unfold leP
  rw [h']
  rfl
end
section
variable {G : Cc} {W : WX} {o o1 : Gh} {c c1 : Cs} {ρ : En} {σ : L2.St} {H : Hp} {S : Sto} {pos apos cpos : Pos} {a b : Expr} {f1 f2 f3 : SE}
theorem c4O {K : PySem.W.Frag} {x y : V} {kvs : List (D × D)} {kd : D} {od : Option D} (r : RepU K o H x (.dict kvs)) (r2 : RepU K o H y kd) (hq : (unD kvs).1 = true) (h : a0r kvs kd = some od) :
  ∃ (a b : Addr) (l : List (List Int × V)) (xs : List (List Int × Addr × Value)) (k : List Int), x = .ref a ∧ y = .ref b ∧ HX H a xs ∧ KX K H l xs ∧ (a == sysModules) = false ∧ SqT K H b (k.map V.int) ∧ (∀ d, od = some d → ∃ v, valV l k = some v ∧ Rep K o H v d) ∧ (od = none → valV l k = none) := by
 obtain ⟨qq, a, ks, vs, ds, rfl, hd, _, hz, hl, ra, e⟩ := r.dctV
 have hu := hd.un (ds := ds)
 rw [← e] at hu
 rw [hu] at hq
 have hq : qq = true := hq
 subst hq
 unfold a0r at h
 cases ek : keyOf kd with
 | none => rw [ek] at h; cases h
 | some k =>
  rw [ek, hu] at h
  dsimp only at h
  split at h
  ·rename_i hc
   have hc : a1T k = true := by
    rw [Bool.or_eq_true, Bool.and_eq_true] at hc
    rcases hc with hc | ⟨_, hc⟩
    ·cases k <;> cases hc
    ·exact hc
   obtain ⟨ns, rfl⟩ := J9 hc
   have h' := Option.some.inj h
   obtain ⟨kvs', xs, hH, kx, hs, rfl, rfl⟩ := hd
   have ey := G2 ek
   subst ey
   obtain ⟨b, us, rfl, sb, _, rb⟩ := r2.tupV
   have eu : us = ns.map V.int := Q6 rb
   subst eu
   obtain ⟨g1, g2⟩ := L6 (fun k => .tuple (k.map PyData.int)) G3 t8 F9 ns kvs' ds ra
   rw [h'] at g1 g2
   exact ⟨a, b, kvs', xs, ns, rfl, rfl, hH, kx, hs, sb, g1, g2⟩
  ·cases h
def b1k : D → D → Option T
 | .dict kvs, k => if (unD kvs).1 = true then (a0r kvs k).bind fun o => o.map T.val else none
 | _, _ => none
theorem b5W (K : PySem.W.Frag) : OpD K (c0R K) b1k := by
 intro G W o c ρ S σ H x y a b t Q hK rs r1 r2 e p
 subst hK
 cases a with
 | dict kvs =>
  have e : (if (unD kvs).1 = true then (a0r kvs b).bind fun o => o.map T.val else none) = some t := e
  split at e
  ·rename_i hq
   cases ed : a0r kvs b with
   | none => rw [ed] at e; cases e
   | some od =>
    rw [ed] at e
    cases od with
    | none => cases e
    | some d =>
     cases e
     obtain ⟨a, b, l, xs, k, rfl, rfl, hH, kx, hs, sb, g1, _⟩ := c4O r1 r2 hq ed
     obtain ⟨v, l1, rv⟩ := g1 d rfl
     exact ⟨a, b, l, xs, k, v, rfl, rfl, hH, kx, sb, l1, f7 rs p rv⟩
  ·cases e
 | _ => cases e
theorem a7Z (h1 : UV G a f1) (h2 : UV G b f2) (hs : PlainIx b := by exact fun _ _ => rfl) : EV G (.Subscript a b pos) (d5 b1k f1 f2) := by
 obtain ⟨t1, p1, q1⟩ := h1
 obtain ⟨t2, p2, q2⟩ := h2
 exact ⟨fun W => tOp (c0R G.K) (t1 W) (t2 W), fun X W k => by have := pe_ix (pos := pos) (c3P (X := X) (by have := k.units; omega)) (p1 X W k) (p2 X W k) hs; rw [k.K] at this; exact this, fun W => a4r (q1 W) (q2 W) (b5W _)⟩
def c7 (p : Int × Int) : D := .tuple [.int p.1, .int p.2]
def P0 : List (D × D) → Option (List (Int × Int))
 | [] => some []
 | (.tuple [.int i, .int j], _) :: r => (P0 r).map ((i, j) :: ·)
 | _ => none
def a0s : List D → Option T
 | [.dict kvs] => if (unD kvs).1 = true then (match P0 (unD kvs).2 with
  | some ps => if ps.length ≤ 10000 then some (.own ((b3f ps).map c7)) else none
  | none => none) else none
 | _ => none
theorem Z2 : ∀ {kvs : List (D × D)} {ps : List (Int × Int)}, P0 kvs = some ps → kvs.map (·.1) = ps.map c7
 | [], ps, h => by cases h; rfl
 | (k, d) :: kvs, ps, h => by
  unfold P0 at h
  split at h
  ·rename_i e; cases e
  ·rename_i i j x r e
   cases e
   cases e2 : P0 kvs with
   | none => rw [e2] at h; cases h
   | some qs =>
    rw [e2] at h
    cases h
    rw [List.map_cons, Z2 e2]
    rfl
  ·cases h
theorem Z3 : ∀ {ks : List (List Int)} {ps : List (Int × Int)}, (ks.map fun k => PyData.tuple (k.map PyData.int)) = ps.map c7 → ks = ps.map C8
 | [], [], _ => rfl
 | [], _ :: _, h => by cases h
 | _ :: _, [], h => by cases h
 | k :: ks, p :: ps, h => by
  rw [List.map_cons, List.map_cons] at h
  injection h with h1 h2
  rw [List.map_cons, Z3 h2]
  congr 1
  injection h1 with h3
  match k, h3 with
  | [i, j], h3 =>
   injection h3 with h4 h5
   injection h5 with h6 h7
   injection h4 with h8
   injection h6 with h9
   rw [h8, h9]
   rfl
  | [], h3 => cases h3
  | [i], h3 => injection h3 with h4 h5; cases h5
  | i :: j :: l :: r, h3 => injection h3 with h4 h5; injection h5 with h6 h7; cases h7
theorem a4O {K : PySem.W.Frag} : ∀ {zs : List V} {ys : List (Int × Int)}, Paired (c3a K H) zs ys → RepAll K o H zs (ys.map c7)
 | _, _, .nil => .nil
 | _, _, .cons h t => by
  obtain ⟨b, rfl, sb⟩ := h
  exact .cons _ _ _ _ (.tup b _ _ sb (show 2 ≤ sizeLine by decide) (.cons _ _ _ _ (.int _) (.cons _ _ _ _ (.int _) .nil))) (a4O t)
theorem b0H (hcm : G.hot = none := by rfl) : BF G "sorted" a0s := ⟨"sorted", _, by decide +kernel, fun X W k => by
  have := a3Y (X := X) (k.calm hcm)
  rw [k.K] at this
  exact this, by
 intro G' W o c ρ S σ H vs ds t Q hK rs r e p
 rw [← hK] at r ⊢
 unfold a0s at e
 split at e
 ·rename_i kvs
  obtain ⟨v, rfl, r'⟩ := r.one
  split at e
  ·rename_i hq
   split at e
   ·rename_i ps ep
    split at e
    ·rename_i h16
     cases e
     obtain ⟨q, a, ks, us, es, rfl, hd, _, hz, hl, ra, e1⟩ := r'.dctV
     have hu := hd.un (ds := es)
     rw [← e1] at hu
     rw [hu] at hq
     have hq : q = true := hq
     subst hq
     rw [hu] at ep
     have ek := Z2 ep
     obtain ⟨l, xs, hH, kx, hs, rfl, rfl⟩ := hd
     have ek2 : (l.map fun p => PyData.tuple (p.1.map PyData.int)) = ps.map c7 := by
      rw [← ek]
      exact (a5W (by rw [hl, ra.length])).symm
     have ek3 : l.map (·.1) = ps.map C8 := Z3 (by rw [List.map_map]; exact ek2)
     refine ⟨a, l, xs, ps, rfl, hH, kx, hs, ek3, h16, fun zs ys p' pr pm pw n => ?_⟩
     have := b0z c4c pm pw
     subst this
     exact D9 (hK ▸ rs) p n (by rw [Paired.length pr, b2J, sizeLine_eq]; omega) (a4O pr)
    ·cases e
   ·cases e
  ·cases e
 ·cases e⟩
end
end BV
namespace BV
open PySem PySem.Spec PyProof.Rows L2

def ItX (ep : Nat) (d : Addr) (xs : List (List Int × Addr × Value)) : It :=
 ⟨fun i H => H d = some (.ext (tdf ep d xs)) ∧ i < xs.length, fun i H x H' => H' = H ∧ ∃ p, xs[i]? = some p ∧ x = .ref p.2.1, fun i H => H d = some (.ext (tdf ep d xs)) ∧ xs.length ≤ i⟩
theorem b91 {P : Program} {w : World} {K : PySem.W.Frag} {tg : Expr} {ep : Nat} {d : Addr} {xs : List (List Int × Addr × Value)} (it : Addr) : Turn P w K tg (ItX ep d xs) [it] it (fun i h => h.IsKeyIter it d i xs.length ep) where
 mem := by simp
 obj := fun i h st b hb => by
  have e : b = it := by simpa using hb
  subst e
  obtain ⟨oi, e, c, dd⟩ := st
  exact ⟨oi, e, fun v z => by rw [dd] at z; cases z⟩
 keep := fun i h h' st k => st.at fun oi e => k it (by simp) oi e
 item := by
  intro X hP hw hK hc i pins s σ H E I hf st hg
  subst hP hw hK
  obtain ⟨hd, hi⟩ := hg
  obtain ⟨f0, f1, f2, f3, f4, f5⟩ := hf it (by simp)
  obtain ⟨⟨o, es, hgd, hx, hdt, hes, _⟩, _⟩ := (show ObjOk X.prog X.w H s.heap d (.ext (tdf ep d xs)) from I.hok d _ hd)
  have hsz : es.size = xs.length := by rw [← Array.length_toList, hes, List.length_map]
  have hen : es[i]? = some (c03 xs[i]) := by
   rw [← Array.getElem?_toList, hes, List.getElem?_map, List.getElem?_eq_getElem hi]
   rfl
  refine next_key_item st hgd hdt hsz hen fun h' st' sb => ?_
  have I1 : Inv X pins σ H { s with heap := h' } := I.turned (t' := s.toks) (fun b ob hb e => (sb.2 b hb).trans e) f0 f1 f3 f4 f5
  obtain ⟨oi, e, c, dd⟩ := id st'
  exact ⟨_, rfl, go_of (s := { s with heap := h' }) e c dd (by decide) ⟨.ref xs[i].2.1, H, I1, rfl, ⟨rfl, xs[i], List.getElem?_eq_getElem hi, rfl⟩, st', fun b hb => (hf b hb).1⟩⟩
 done := by
  intro X hP hw hK hc i pins s σ H E I hf st hg
  subst hP hw hK
  obtain ⟨hd, hi⟩ := hg
  obtain ⟨f0, f1, f2, f3, f4, f5⟩ := hf it (by simp)
  obtain ⟨⟨o, es, hgd, hx, hdt, hes, _⟩, _⟩ := (show ObjOk X.prog X.w H s.heap d (.ext (tdf ep d xs)) from I.hok d _ hd)
  have hsz : es.size = xs.length := by rw [← Array.length_toList, hes, List.length_map]
  exact next_key_end (I.ok.hd hc) st hgd hdt hsz hi fun h' eb => ⟨rfl, I.turned (t' := s.toks) (fun b ob hb e => eb b ob hb e) f0 f1 f3 f4 f5⟩
 self := fun A i s Q E st h => by
  refine wpAny_pyIter_slot st.typeIs F.slot_dict_keyiterator_iter (wpAny_call_entry F.slot_dict_keyiterator_iter st.typeIs F.entry_dict_keyiterator_iter ?_ (F.args_dict_keyiterator_iter_1 _))
  show wpAny _ _ (ret (.ref it)) _ _ s
  exact wpAny_pure ⟨_, rfl, "dict_keyiterator", _, st.typeIs, F.slot_dict_keyiterator_next.lookup, h⟩
def iKX (td : TE) : TI := fun σ H R => td σ H fun x H1 => ∃ ep d xs, x = .ref d ∧ (d == sysModules) = false ∧ H1 d = some (.ext (tdf ep d xs)) ∧ R (ItX ep d xs) H1
theorem c4w {X : Cx} {tg e : Expr} {td : TE} (he : PE X e td) : PI X tg e (iKX td) := by
 refine ⟨fun pins s σ H R I h => ?_⟩
 refine thn (he.run pins s σ H _ I h) fun u s1 ⟨x, H1, I1, rx, ep, d, xs, ex, hs, hd, q⟩ => ?_
 subst ex
 obtain rfl : u = Value.ref d := rx
 obtain ⟨⟨o, es, hgd, hx, hdt, hes, _⟩, _⟩ := (show ObjOk X.prog X.w H1 s1.heap d (.ext (tdf ep d xs)) from I1.hok d _ hd)
 have hsz : es.size = xs.length := by rw [← Array.length_toList, hes, List.length_map]
 refine iter_keys hs hgd hx hdt (pi_one (tk := s1.toks) I1 _ (b91 _) ⟨_, Heap.get?_push_size _ rfl, rfl, ?_⟩ q)
 rw [hsz] <;> rfl
def a5N (f : SE) : SI := fun ρ S => match f ρ S with
 | .ok t S1 => (match asD t with
  | some (.dict kvs) => if (unD kvs).1 = true then (match P0 (unD kvs).2 with
   | some ps => if ps.length ≤ 10000 then .ok (ps.map c7) S1 else .bad
   | none => .bad) else .bad
  | _ => .bad)
 | .exc e S1 => .exc e S1
 | .bad => .bad
theorem c4z {vol : Ow → Prop} {K : PySem.W.Frag} {o : Gh} {c : Cs} {H : Hp} {ep : Nat} {d : Addr} {xs : List (List Int × Addr × Value)} {ps : List (Int × Int)} (tr : Trk o H) (hd : H d = some (.ext (tdf ep d xs))) (hn : o d = none) (z : ps.length ≤ 10000) (pr : Paired (fun (x : List Int × Addr × Value) (p : Int × Int) => SqT K H x.2.1 [.int p.1, .int p.2]) xs ps) : b4L vol K (ItX ep d xs) o c H (ps.map c7) := by
 have hl : xs.length = ps.length := Paired.length pr
 refine ⟨by rw [List.length_map, sizeLine_eq]; omega, fun o1 c1 H1 s tr1 i => ?_⟩
 have h1 := s.keep d _ hd (fun w hw => by rw [hn] at hw; cases hw)
 refine ⟨fun h => ⟨h1, by rw [List.length_map] at h; omega⟩, fun x e => ?_⟩
 rw [List.getElem?_map] at e
 cases q : ps[i]? with
 | none => rw [q] at e; cases e
 | some p =>
  rw [q] at e
  simp only [Option.map_some, Option.some.injEq] at e
  subst e
  have hi : i < xs.length := by rw [hl]; exact (List.getElem?_eq_some_iff.mp q).1
  refine ⟨⟨h1, hi⟩, fun y H2 yy => ?_⟩
  obtain ⟨rfl, k, e1, rfl⟩ := yy
  obtain ⟨p', e2, sq⟩ := paired_get pr e1
  rw [q] at e2
  cases e2
  refine ⟨fun _ _ q => q, ?_⟩
  exact .tup k.2.1 _ _ (SqT.stay tr s sq) (show 2 ≤ sizeLine by decide) (.cons _ _ _ _ (.int _) (.cons _ _ _ _ (.int _) .nil))
theorem c4P {G : Cc} {tg e : Expr} {f : SE} {vol : Ow → Prop} (h : EV G e f) : IV vol G tg e (a5N f) := by
 obtain ⟨t, p, q⟩ := h
 refine ⟨fun W => iKX (t W), fun X W k => c4w (p X W k), fun W σ H ρ S o c Q nt rs ps => ?_⟩
 refine q W σ H ρ S o c _ nt rs ?_
 unfold a5N at ps
 cases e1 : f ρ S with
 | bad => rw [e1] at ps; exact ps.elim
 | exc e' S' => rw [e1] at ps; exact ps
 | ok t0 S' =>
  rw [e1] at ps
  intro v o' c' H' s rs' r'
  cases ea : asD t0 with
  | none => simp only [ea] at ps; exact ps.elim
  | some d =>
   simp only [ea] at ps
   cases d with
   | dict kvs =>
    simp only at ps
    split at ps
    ·rename_i hq
     split at ps
     ·rename_i pl ep
      split at ps
      ·rename_i h16
       have r2 := r'.toD rs'.cs.trk ea
       cases r2 with
       | dct q a ks us es kvs hd hn hz hl ra e2 =>
        have hu := hd.un (ds := es)
        rw [← e2] at hu
        rw [hu] at hq
        have hq : q = true := hq
        subst hq
        rw [hu] at ep
        have ek := Z2 ep
        obtain ⟨l, xs, ⟨en, hH⟩, kx, hs, rfl, rfl⟩ := hd
        have ek2 : (l.map fun p => PyData.tuple (p.1.map PyData.int)) = pl.map c7 := by
         rw [← ek]
         exact (a5W (by rw [hl, ra.length])).symm
        have ek3 : l.map (·.1) = pl.map C8 := Z3 (by rw [List.map_map]; exact ek2)
        exact ⟨en, a, xs, rfl, hs, hH, ps _ (unT o') c' H' (s.untmp nt) C2 rs'.untmp (c4z rs'.untmp.cs.trk hH hn h16 (kx.refs ek3))⟩
      ·exact ps.elim
     ·exact ps.elim
    ·exact ps.elim
   | _ => exact ps.elim
end BV
namespace BV
open PySem PySem.Spec PyProof.Rows L2

section
variable {prog : Program} {w : World} {A : Around} {E : Value → Shared → Prop} {s : Shared}
variable {z TI TO i1 i2 l1 l2 : Addr} {k1 k2 : Nat} {xs ys : Array Value} {x y a b f0 : Value} {f : Bool}
end
end BV
namespace BV
open PySem PySem.Spec PyProof.Rows L2

section
variable {prog : Program} {w : World} {A : Around} {E : Value → Shared → Prop} {s : Shared}
end
section
variable {K : PySem.W.Frag} {o : Gh} {c : Cs} {H : Hp} {a b : Addr} {vs ws : List V} {ds es : List D} {vol : Ow → Prop}
end
section
variable {G : Cc} {pos pos' p p' tpos : Pos} {e1 e2 : Expr} {elts : List Expr} {kk : Nat} {fs : SU} {vol : Ow → Prop}
end
end BV
namespace BV
open PySem L2

section
variable {K : PySem.W.Frag} {o o' : Gh} {H H' : Hp} {w w' : Ow}
mutual
theorem RepW.moveA (ht : ∀ a vs, SqT K H a vs → SqT K H' a vs) : ∀ {v : V} {d : BV.D} {as : List Addr}, RepW K o w H v d as → (∀ a ∈ as, ∀ u, H a = some u → o a = some w → H' a = some u ∧ o' a = some w') → RepW K o' w' H' v d as
 | _, _, _, .non, _ => .non
 | _, _, _, .bl b, _ => .bl b
 | _, _, _, .int i, _ => .int i
 | _, _, _, .str x h1 h2, _ => .str x h1 h2
 | _, _, _, .lst a vs ds as h1 h2 h3 h4, hl => .lst a vs ds as (hl a (List.mem_cons_self ..) _ h2 h1).2 (hl a (List.mem_cons_self ..) _ h2 h1).1 h3 (RepWs.moveA ht h4 fun b hb => hl b (List.mem_cons_of_mem _ hb))
 | _, _, _, .tup a vs ds as h1 h2 h3, hl => .tup a vs ds as (ht a _ h1) h2 (RepWs.moveA ht h3 hl)
theorem RepWs.moveA (ht : ∀ a vs, SqT K H a vs → SqT K H' a vs) : ∀ {vs : List V} {ds : List BV.D} {as : List Addr}, RepWs K o w H vs ds as → (∀ a ∈ as, ∀ u, H a = some u → o a = some w → H' a = some u ∧ o' a = some w') → RepWs K o' w' H' vs ds as
 | _, _, _, .nil, _ => .nil
 | _, _, _, .cons v d vs ds as bs h1 h2, hl => .cons v d vs ds as bs (RepW.moveA ht h1 fun b hb => hl b (List.mem_append_left _ hb)) (RepWs.moveA ht h2 fun b hb => hl b (List.mem_append_right _ hb))
end
mutual
theorem RepW.of : ∀ {v : V} {d : BV.D} {as : List Addr}, RepW K o w H v d as → ∀ a ∈ as, o a = some w ∧ ∃ vs, H a = some (.lst vs)
 | _, _, _, .non, _, h => nomatch h
 | _, _, _, .bl b, _, h => nomatch h
 | _, _, _, .int i, _, h => nomatch h
 | _, _, _, .str x h1 h2, _, h => nomatch h
 | _, _, _, .lst a vs ds as h1 h2 h3 h4, b, h => by
  rcases List.mem_cons.mp h with z | z
  ·rw [z]; exact ⟨h1, vs, h2⟩
  ·exact RepWs.of h4 b z
 | _, _, _, .tup a vs ds as h1 h2 h3, b, h => RepWs.of h3 b h
theorem RepWs.of : ∀ {vs : List V} {ds : List BV.D} {as : List Addr}, RepWs K o w H vs ds as → ∀ a ∈ as, o a = some w ∧ ∃ vs, H a = some (.lst vs)
 | _, _, _, .nil, _, h => nomatch h
 | _, _, _, .cons v d vs ds as bs h1 h2, b, h => by
  rcases List.mem_append.mp h with z | z
  ·exact RepW.of h1 b z
  ·exact RepWs.of h2 b z
end
theorem RepWs.length : ∀ {vs : List V} {ds : List BV.D} {as : List Addr}, RepWs K o w H vs ds as → vs.length = ds.length
 | _, _, _, .nil => rfl
 | _, _, _, .cons v d vs ds as bs _ h2 => by rw [List.length_cons, List.length_cons, RepWs.length h2]
theorem RepWs.append : ∀ {vs us : List V} {ds es : List BV.D} {as bs : List Addr}, RepWs K o w H vs ds as → RepWs K o w H us es bs → RepWs K o w H (vs ++ us) (ds ++ es) (as ++ bs)
 | _, _, _, _, _, _, .nil, q => q
 | _, _, _, _, _, _, .cons v d vs ds as bs h1 h2, q => by
  rw [List.append_assoc]
  exact .cons v d _ _ as _ h1 (RepWs.append h2 q)
theorem RepWs.one {v : V} {d : BV.D} {as : List Addr} (h : RepW K o w H v d as) : RepWs K o w H [v] [d] as := by
 have := RepWs.cons v d [] [] as [] h .nil
 rwa [List.append_nil] at this
theorem RepWs.at : ∀ {vs : List V} {ds : List BV.D} {as : List Addr} {k : Nat} {d : BV.D}, RepWs K o w H vs ds as → ds[k]? = some d → ∃ v pre bs post, vs[k]? = some v ∧ as = pre ++ bs ++ post ∧ RepW K o w H v d bs ∧
  ∀ {H' : Hp} {o' : Gh} {w' : Ow} {v' : V} {d' : BV.D} {bs' : List Addr}, (∀ a us, SqT K H a us → SqT K H' a us) → (∀ a, a ∈ pre ∨ a ∈ post → ∀ u, H a = some u → o a = some w → H' a = some u ∧ o' a = some w') → RepW K o' w' H' v' d' bs' → RepWs K o' w' H' (vs.set k v') (ds.set k d') (pre ++ bs' ++ post)
 | _, _, _, k, d, .nil, e => by simp at e
 | _, _, _, 0, d, .cons v d0 vs ds as bs h1 h2, e => by
  simp at e
  subst e
  refine ⟨v, [], as, bs, rfl, rfl, h1, fun {H' o' w' v' d' bs'} ht hl r => ?_⟩
  exact .cons v' d' vs ds bs' bs r (RepWs.moveA ht h2 fun a ha => hl a (.inr ha))
 | _, _, _, k + 1, d, .cons v d0 vs ds as bs h1 h2, e => by
  obtain ⟨v1, pre, cs, post, e1, e2, r1, up⟩ := RepWs.at (k := k) h2 (by simpa using e)
  refine ⟨v1, as ++ pre, cs, post, by simpa using e1, by rw [e2]; simp only [List.append_assoc], r1, fun {H' o' w' v' d' bs'} ht hl r => ?_⟩
  have z := up ht (fun a ha => hl a (ha.imp (List.mem_append_right _) id)) r
  have := RepWs.cons v d0 (vs.set k v') (ds.set k d') as _ (RepW.moveA ht h1 fun a ha => hl a (.inl (List.mem_append_left _ ha))) z
  rw [List.set_cons_succ, List.set_cons_succ]
  simpa only [List.append_assoc] using this
end
section
variable {G : Cc} {pos : Pos} {e : Expr} {es : List Expr} {f : SE} {fs : SU}
end
end BV
namespace BV
open PySem L2

section
variable {K : PySem.W.Frag} {o o1 : Gh} {c c1 : Cs} {ρ : En} {S : Sto} {σ : L2.St} {H H1 : Hp} {w : Ow}
end
end BV
namespace BV
open PySem L2

section
variable {G : Cc} {W : WX} {o o1 : Gh} {c c1 : Cs} {ρ : En} {σ : L2.St} {H H1 : Hp} {S S1 : Sto} {pos : Pos} {e : Expr} {f : SE}
end
end BV
namespace BV
open PySem L2
section
variable {G : Cc}
end
end BV
namespace BV
open PySem L2

section
variable {G : Cc} {pos : Pos} {e : Expr} {es : List Expr} {f : SE} {fs : SU}
end
section
variable {K : PySem.W.Frag} {o o1 : Gh} {c c1 : Cs} {ρ : En} {S : Sto} {σ : L2.St} {H H1 : Hp} {w : Ow}
end
section
variable {G : Cc} {W : WX} {o o1 : Gh} {c c1 : Cs} {ρ : En} {σ : L2.St} {H H1 : Hp} {S S1 : Sto} {pos : Pos}
end
section
variable {f : SE} {fs : SU} {ρ : En} {S : Sto} {i : Nat} {fa fb : SE}
end
end BV
namespace BV
open PySem L2

theorem b61 : (("lines" : Str) = "job") = False := by simp; decide +kernel
theorem b81 : (("ahead" : Str) = "job") = False := by simp; decide +kernel
theorem b96 : (("undone" : Str) = "job") = False := by simp; decide +kernel
theorem c1p : (("job" : Str) = "lines") = False := by simp; decide +kernel
theorem b93 : (("ahead" : Str) = "lines") = False := by simp; decide +kernel
theorem b8K : (("undone" : Str) = "lines") = False := by simp; decide +kernel
theorem c2J : (("job" : Str) = "ahead") = False := by simp; decide +kernel
theorem c2d : (("lines" : Str) = "ahead") = False := by simp; decide +kernel
theorem b3F : (("undone" : Str) = "ahead") = False := by simp; decide +kernel
theorem c1r : (("job" : Str) = "undone") = False := by simp; decide +kernel
theorem c1j : (("lines" : Str) = "undone") = False := by simp; decide +kernel
theorem c0f : (("ahead" : Str) = "undone") = False := by simp; decide +kernel
def DskV.dat (v : DskV) (f : Str) : Option D := if f = "job" then v.job else if f = "lines" then v.lines else none
def DskV.lst (v : DskV) (f : Str) : Option (List D) := if f = "ahead" then v.ahead else if f = "undone" then v.undone else none
def DskV.putD (v : DskV) (f : Str) (d : D) : Option DskV := if f = "job" then some { v with job := some d } else if f = "lines" then some { v with lines := some d } else none
def DskV.putL (v : DskV) (f : Str) (xs : List D) : Option DskV := if f = "ahead" then some { v with ahead := some xs } else if f = "undone" then some { v with undone := some xs } else none
@[simp] theorem c2k (v : DskV) : v.dat "job" = v.job := rfl
@[simp] theorem b83 (v : DskV) : v.dat "lines" = v.lines := by simp [DskV.dat, b61]
@[simp] theorem b9g (v : DskV) : v.lst "ahead" = v.ahead := rfl
@[simp] theorem b7L (v : DskV) : v.lst "undone" = v.undone := by simp [DskV.lst, b3F]
@[simp] theorem c05 (v : DskV) (d : D) : v.putD "job" d = some { v with job := some d } := rfl
@[simp] theorem b7S (v : DskV) (d : D) : v.putD "lines" d = some { v with lines := some d } := by simp [DskV.putD, b61]
@[simp] theorem b77 (v : DskV) (xs : List D) : v.putL "ahead" xs = some { v with ahead := some xs } := rfl
@[simp] theorem b7f (v : DskV) (xs : List D) : v.putL "undone" xs = some { v with undone := some xs } := by simp [DskV.putL, b3F]
def c3Z : Ce → Ce
 | .rcd _ _ => .dead
 | k => k
def b3q (S : Sto) : Sto := S.map c3Z
def a59 : T → Bool
 | .rof _ _ => true
 | _ => false
theorem a7Y (S : Sto) : (b3q S).length = S.length := by simp [b3q]
section
variable {K : PySem.W.Frag} {o o1 o' : Gh} {c c' : Cs} {H H' : Hp} {S S' : Sto} {v : V} {t : T} {w : Ow} {ρ : En} {σ : L2.St}
end
section
variable {G : Cc} {e : Expr} {es : List Expr} {f : SE} {fs : SA}
end
end BV
namespace BV
open PySem L2

section
variable {K : PySem.W.Frag} {o o1 o' : Gh} {c c' : Cs} {H H' : Hp} {S S' : Sto} {t : T} {w : Ow} {ρ : En} {σ : L2.St} {fv : Str → Option V} {v v' : DskV} {f : Str}
theorem FlR.mv {H' : Hp} {u : Option V} {d : Option (List BV.D)} (tr : Trk o H) (k : Kept o H o' H') (hc : ∀ b vs, o b = some w → H b = some (.lst vs) → o' b = some w ∧ H' b = some (.lst vs)) (r : FlR K o H w u d) : FlR K o' H' w u d := by
 cases d with
 | none => exact r
 | some d =>
  obtain ⟨b, vs, e, q1, q2, q3, q4⟩ := r
  exact ⟨b, vs, e, (hc b vs q1 q2).1, (hc b vs q1 q2).2, q3, q4.kept tr k⟩
theorem RecR.putD {y : V} {d : BV.D} (tr : Trk o H) (k : Kept o H o' H') (hc : ∀ b vs, o b = some w → H b = some (.lst vs) → o' b = some w ∧ H' b = some (.lst vs)) (ry : Rep K o' H' y d) (e : v.putD f d = some v') (r : RecR K o H w fv v) :
  RecR K o' H' w (fun g => if g = f then some y else fv g) v' := by
 unfold DskV.putD at e
 split at e
 ·rename_i h; subst h; cases e
  refine ⟨?_, ?_, ?_, ?_, ?_⟩
  ·exact ⟨y, if_pos rfl, ry⟩
  ·simp only [b61, if_false]; exact r.lines.moved tr k
  ·simp only [b81, if_false]; exact r.ahead.mv tr k hc
  ·simp only [b96, if_false]; exact r.undone.mv tr k hc
  ·simp only [b81, b96, if_false]; exact r.two
 ·split at e
  ·rename_i h; subst h; cases e
   refine ⟨?_, ?_, ?_, ?_, ?_⟩
   ·simp only [c1p, if_false]; exact r.job.moved tr k
   ·exact ⟨y, if_pos rfl, ry⟩
   ·simp only [b93, if_false]; exact r.ahead.mv tr k hc
   ·simp only [b8K, if_false]; exact r.undone.mv tr k hc
   ·simp only [b93, b8K, if_false]; exact r.two
  ·cases e
theorem FlR.addr {u : Option V} {d : Option (List BV.D)} (r : FlR K o H w u d) {b : Addr} (e : u = some (.ref b)) : o b = some w := by
 cases d with
 | none => rw [show u = none from r] at e; cases e
 | some d =>
  obtain ⟨b', vs, e1, q1, _⟩ := r
  rw [e] at e1; cases e1
  exact q1
theorem RecR.putL {p : Addr} {vs : List V} {xs : List BV.D} (tr : Trk o H) (k : Kept o H o' H') (hc : ∀ b vs, o b = some w → H b = some (.lst vs) → o' b = some w ∧ H' b = some (.lst vs)) (np : o p ≠ some w) (h1 : o' p = some w) (h2 : H' p = some (.lst vs)) (h3 : vs.length ≤ sizeLine) (h4 : RepAll K o' H' vs xs)
  (e : v.putL f xs = some v') (r : RecR K o H w fv v) : RecR K o' H' w (fun g => if g = f then some (.ref p) else fv g) v' := by
 unfold DskV.putL at e
 split at e
 ·rename_i h; subst h; cases e
  refine ⟨?_, ?_, ?_, ?_, ?_⟩
  ·simp only [c2J, if_false]; exact r.job.moved tr k
  ·simp only [c2d, if_false]; exact r.lines.moved tr k
  ·exact ⟨p, vs, if_pos rfl, h1, h2, h3, h4⟩
  ·simp only [b3F, if_false]; exact r.undone.mv tr k hc
  ·simp only [b3F, if_true, if_false]
   intro b e1 e2
   cases e1
   exact np (r.undone.addr e2)
 ·split at e
  ·rename_i h; subst h; cases e
   refine ⟨?_, ?_, ?_, ?_, ?_⟩
   ·simp only [c1r, if_false]; exact r.job.moved tr k
   ·simp only [c1j, if_false]; exact r.lines.moved tr k
   ·simp only [c0f, if_false]; exact r.ahead.mv tr k hc
   ·exact ⟨p, vs, if_pos rfl, h1, h2, h3, h4⟩
   ·simp only [c0f, if_true, if_false]
    intro b e1 e2
    cases e2
    exact np (r.ahead.addr e1)
  ·cases e
end
end BV
namespace BV
open PySem L2

section
variable {G : Cc} {W : WX} {o o1 o2 : Gh} {c c1 c2 : Cs} {ρ : En} {σ : L2.St} {H H1 H2 : Hp} {S S1 : Sto} {pos p : Pos} {a b e : Expr} {es : List Expr} {f1 f2 fe : SE} {fs : SA} {t : T} {v : V}
end

def atR (ρ : En) (S : Sto) (i : Nat) (b : Bool) : Option (Nat × DskV) := match ρ[i]? with
 | some (some (.cel n)) => (match S[n]? with
  | some (.rcd b' v) => if b' = b then some (n, v) else none
  | _ => none)
 | _ => none
section
variable {X : Cx} {G : Cc} {W : WX} {o o1 o2 : Gh} {c c1 c2 : Cs} {ρ : En} {σ : L2.St} {H H1 H2 : Hp} {S S1 : Sto} {pos p : Pos} {a b e : Expr} {es : List Expr} {f1 f2 fe : SE} {fs : SA} {t : T} {v : V}
end
end BV
namespace BV
open PySem L2
section
variable {K : PySem.W.Frag} {G : Cc} {W : WX} {o o1 o2 : Gh} {c c1 c2 : Cs} {ρ : En} {σ : L2.St} {H H1 H2 : Hp} {S S1 : Sto} {pos p : Pos} {a b e : Expr} {es : List Expr} {f1 f2 fe : SE} {fs : SA} {t : T} {v v' : DskV}
end
end BV
namespace BV
open PySem L2
section
variable {K : PySem.W.Frag} {G : Cc} {W : WX} {o o1 o2 : Gh} {c c1 c2 : Cs} {ρ : En} {σ : L2.St} {H H1 H2 : Hp} {S S1 : Sto} {pos p : Pos} {a b e : Expr} {es : List Expr} {f1 f2 fe : SE} {fs : SA} {t : T} {v v' : DskV}
end

section
variable {X : Cx} {G : Cc} {CX : CXT} {k : Nat} {f C : Addr} {fd : FuncData} {ps : List Str} {sp : Sp} {E : L2.St → XK} {m : Str} {pos apos : Pos} {e o : Expr} {es : List Expr} {ta : TE} {t : TA} {fs : SA}
end
end BV
namespace BV
open PySem L2
section
variable {K : PySem.W.Frag} {G : Cc} {W : WX} {o o' o1 o2 o3 : Gh} {c c1 c2 : Cs} {ρ : En} {σ : L2.St} {H H1 H2 H4 : Hp} {S S1 : Sto} {pos p : Pos} {a b e : Expr} {es : List Expr} {f1 f2 fe : SE} {fs : SA} {t : T} {v v' : DskV} {Q : VK}
theorem RS.push {x : Addr} {k : Ce} (rs : RS K o c ρ S σ H) (h : CellR K o H S.length x k) : RS K o (c ++ [x]) ρ (S ++ [k]) σ H :=
 rs.step (c1 := c ++ [x]) ⟨fun _ _ e _ => e, fun _ _ e _ => e, fun _ e n => absurd e n, ⟨[x], rfl⟩⟩ ⟨by rw [List.length_append, List.length_append, rs.cs.clen]; rfl, fun n b q e1 e2 => by
  by_cases hl : n < S.length
  ·rw [List.getElem?_append_left (by rw [rs.cs.clen]; exact hl)] at e1
   rw [List.getElem?_append_left hl] at e2
   exact rs.cs.cell n b q e1 e2
  ·have hn : n = S.length := by
    have := (List.getElem?_eq_some_iff.mp e2).1
    rw [List.length_append] at this
    simp at this
    omega
   subst hn
   rw [List.getElem?_append_right (by rw [rs.cs.clen]; exact Nat.le_refl _), rs.cs.clen, Nat.sub_self] at e1
   rw [List.getElem?_append_right (Nat.le_refl _), Nat.sub_self] at e2
   simp only [List.getElem?_cons_zero, Option.some.injEq] at e1 e2
   subst e1 e2
   exact h, rs.cs.trk⟩
theorem Step.push {x : Addr} : Step d3 o c H o (c ++ [x]) H := ⟨fun _ _ e _ => e, fun _ _ e _ => e, fun _ e n => absurd e n, ⟨[x], rfl⟩⟩
theorem RS.same (rs : RS K o c ρ S σ H) (hn : ∀ a, o a = none ↔ o' a = none) (hs : ∀ a i, o a = some (.slot i) → o' a = some (.slot i)) (hc : ∀ a n, o a = some (.cell n) → o' a = some (.cell n)) (he : ∀ a, o a = some .seen → o' a = some .seen) : RS K o' c ρ S σ H :=
 ⟨rs.len, fun i t e => by
  obtain ⟨v, e1, r⟩ := rs.slot i t e
  exact ⟨v, e1, r.same rs.cs.trk (fun a => (hn a).mp) (fun a e => hs a i e) he⟩, rs.cs.same hn hc⟩
end
end BV
namespace BV
open PySem PySem.Spec PyProof.Rows L2
open He (ba eqO eqO_ok ga)

end BV
namespace BV
open PySem PySem.Spec PyProof.Rows L2

section
variable {P : Program} {w : World} {A : Around} {E : Value → Shared → Prop} {s : Shared}
end
section
variable {X : Cx} {a : Expr} {ta : TE} {p p2 q pos : Pos}
end
section
variable {G : Cc} {a : Expr} {f : SE} {p p2 q pos : Pos}
end
end BV
namespace BV
open PySem PySem.Spec PyProof.Rows L2

end BV
namespace BV
open PySem PySem.Spec PyProof.Rows L2
open He (ba eqO eqO_ok ga)

end BV
namespace BV
open PySem PySem.Spec PyProof.Rows L2
open He (ba eqO eqO_ok ga)

end BV
namespace BV
open PySem PySem.Spec PyProof.Rows L2
section
variable {P : Program} {w : World} {K : PySem.W.Frag} {mg : Str → Option Value} {base : Heap} {cn : Bool} {k : Nat} {m qual : Str} {st : Stmt} {fd : FuncData} {N ps : List Str} {g : SS} {sc : Scope} {n : Nat}
end
section
variable {ρ : En} {S : Sto} {f fk fe : SE} {i : Nat} {b : Bool} {fn : Fn} {fs : SA} {x : Str}
@[simp] theorem b8Z {d : D} : a59 (.val d) = false := rfl
@[simp] theorem b9k {d : List D} : a59 (.own d) = false := rfl
@[simp] theorem b70 {d : List (List D)} : a59 (.own2 d) = false := rfl
@[simp] theorem b7Q {q : Bool} {d : List (D × D)} : a59 (.ownd q d) = false := rfl
@[simp] theorem c0a {n : Nat} : a59 (.cel n) = false := rfl
@[simp] theorem b79 {d : D} : a59 (.tree d) = false := rfl
theorem b84 {n : Nat} {b : Bool} {v : DskV} (h1 : ρ[i]? = some (some (.cel n))) (h2 : S[n]? = some (.rcd b v)) : atR ρ S i b = some (n, v) := by
 unfold atR
 rw [h1]
 simp [h2]
theorem b6b {n : Nat} {xs : List D} (h : S[n]? = some (.lst xs)) : (b3q S)[n]? = some (.lst xs) := by simp [b3q, h, c3Z]
end
end BV
namespace BV
open PySem L2
section
variable {G : Cc} {es : List Expr} {fs : SA} {pos : Pos} {e b : Expr} {f2 : SE}
end
section
variable {G : Cc} {e : Expr} {fs : SA}
end
section
variable {G : Cc} {e : Expr} {f : SE} {tg : Expr}
end
end BV
namespace BV
open PySem PySem.Spec PyProof.Rows L2 LamX

section
variable {K : PySem.W.Frag} {o : Gh} {c : Cs} {ρ : En} {S : Sto} {σ : L2.St} {H H2 : Hp}
end
section
variable {X : Cx} {P c : Addr} {params : Arguments} {body : Expr} {scope : Scope} {pos : Pos}
end
section
variable {G : Cc} {pos p lpos kpos : Pos} {e : Expr} {f : SE}
end
end BV
namespace BV
open PySem PySem.Spec PyProof.Rows L2 LamX
open He (ba)

def tfL : List He.Defn := [("named", none)]
def obsT (n : Nat) (fa : List He.Fa) (fn : List He.DefD) (ts : List He.Tab) (ex : List (PySem.W.Frag → Bool)) (g : Addr → Option Obj) : AlB := (He.obsT fa fn ts (frB n g), (ex.all fun e => e (frB n g)) && He.tabsB g tfL (frB n g))
structure SaysT (fa : List He.Fa) (fn : List He.DefD) (ts : List He.Tab) (ex : List (PySem.W.Frag → Bool)) (w : World) (h : Heap) (K : PySem.W.Frag) : Prop where
 b : SaysB fa fn ts ex w K
 hd : PySem.W.codeHdIn K (He.cT K ("named", none)).1 (He.cT K ("named", none)).2 = true
 out : K.lookup (He.cT K ("named", none)).2 = none
 empty : h.get? (He.cT K ("named", none)).2 = some { cls := .none, data := .fields #[] }
end BV
namespace BV
open PySem PySem.Spec PyProof.Rows L2 LamX
open He (ba)

section
open PySem.W PySem.Calls HandSHeadRun
end
end BV
namespace BV
open PySem PySem.Spec PyProof.Rows L2
def scX (xs : List (Str × NameKind)) (gs : List Str) : Scope := ⟨.function, xs ++ gs.map fun x => (x, .globalImplicit), false, false, []⟩
def scL (ls gs : List Str) : Scope := scX (ls.map fun x => (x, .local)) gs
def fsB (N P : List Str) (sc : Scope) : Bool := decide (sc.kind = .function) && (decide (sc.isCoroutine = false) && (decide (sc.isGenerator = false) && (decide N.Nodup && (decide (N.take P.length = P) && (P.all (fun x => decide (sc.names.lookup x = some .local) || decide (sc.names.lookup x = some .cell)) && sc.names.all fun y => !decide (y.2 = .free))))))
theorem a0x {N P : List Str} {sc : Scope} (h : fsB N P sc = true) : FnScope N P sc := by
 unfold fsB at h
 simp only [Bool.and_eq_true, decide_eq_true_eq] at h
 obtain ⟨h1, h2, h3, h4, h5, h6, h7⟩ := h
 rw [List.all_eq_true] at h6 h7
 refine ⟨h1, h2, h3, h4, h5, fun x hx => ?_, fun y hy z => ?_⟩
 ·have := h6 x hx
  rw [Bool.or_eq_true, decide_eq_true_eq, decide_eq_true_eq] at this
  exact this
 ·have := h7 y hy
  rw [z] at this
  simp at this
def ddO (n : Str) (s : Stmt) : He.DefD := ⟨(n, none), n, n, defArgs s, defBody s, defScope s, [], []⟩
section
variable {fa : List He.Fa} {fn : List He.DefD} {ts : List He.Tab} {ex : List (PySem.W.Frag → Bool)} {w : World} {K : PySem.W.Frag}
theorem SaysB.dO (c : SaysB fa fn ts ex w K) (i : Nat) {n : Str} {s : Stmt} (h : fn[i]? = some (ddO n s)) : ∃ fd, FunD K n n (defArgs s) (defBody s) (defScope s) [] [] (He.ga K n) fd := c.def_ i h
end
section
universe u1 u2 u3 u4 u5 u6 u7
variable {A1 : Sort u1} {A2 : Sort u2} {A3 : Sort u3} {A4 : Sort u4} {A5 : Sort u5} {A6 : Sort u6} {V : Type u7} {Q : A1 → A2 → A3 → A4 → A5 → A6 → List V → Prop}
theorem al1 (h : ∀ a b c d e f x, Q a b c d e f [x]) : ∀ a b c d e f us, us.length = 1 → Q a b c d e f us := fun a b c d e f us hl => match us, hl with | [x], _ => h a b c d e f x
theorem al2 (h : ∀ a b c d e f x y, Q a b c d e f [x, y]) : ∀ a b c d e f us, us.length = 2 → Q a b c d e f us := fun a b c d e f us hl => match us, hl with | [x, y], _ => h a b c d e f x y
theorem al3 (h : ∀ a b c d e f x y z, Q a b c d e f [x, y, z]) : ∀ a b c d e f us, us.length = 3 → Q a b c d e f us := fun a b c d e f us hl => match us, hl with | [x, y, z], _ => h a b c d e f x y z
theorem al4 (h : ∀ a b c d e f x y z t, Q a b c d e f [x, y, z, t]) : ∀ a b c d e f us, us.length = 4 → Q a b c d e f us := fun a b c d e f us hl => match us, hl with | [x, y, z, t], _ => h a b c d e f x y z t
end
end BV
namespace BV
open PySem PySem.Spec PyProof.Rows L2
section
universe u1 u2 u3 u4 u5 u6 u7
variable {A1 : Sort u1} {A2 : Sort u2} {A3 : Sort u3} {A4 : Sort u4} {A5 : Sort u5} {A6 : Sort u6} {V : Type u7} {Q : A1 → A2 → A3 → A4 → A5 → A6 → List V → Prop}
theorem al6 (h : ∀ a b c d e f x y z t u v, Q a b c d e f [x, y, z, t, u, v]) : ∀ a b c d e f us, us.length = 6 → Q a b c d e f us := fun a b c d e f us hl => match us, hl with | [x, y, z, t, u, v], _ => h a b c d e f x y z t u v
end
end BV
namespace BV
open PySem L2
def b8U : SS := fun _ _ => .bad
theorem b6M {G : Cc} {st : List Stmt} : SVs G st b8U := ⟨fun _ _ _ _ => False, fun X W k => ⟨fun _ _ _ _ _ _ h => h.elim⟩, fun W σ H ρ S o c D nt rs ps => ps⟩
def b5M (n : Nat) (g : Fn → SS) : Nat → Fn
 | 0 => fnL n b8U
 | r + 1 => fnL n (g (b5M n g r))
theorem b5F {n : Nat} {g : Fn → SS} {r : Nat} : b5M n g (r + 1) = fnL n (g (b5M n g r)) := rfl
end BV
namespace BV
open PySem PySem.Spec PyProof.Rows L2
def a0O (i : Nat) (f : SE) : SE := fun ρ S => match ρ[i]? with
 | some (some (.cel n)) => R.d (f ρ S) fun d S1 => (match S1[n]? with
  | some (.dct true kvs) => (match a0r (mkD true kvs) d with | some (some x) => .ok (.val x) S1 | _ => .bad)
  | _ => .bad)
 | _ => .bad
@[simp] theorem c0M {i : Nat} {f : SE} {ρ : En} {S : Sto} : a0O i f ρ S = (match ρ[i]? with
 | some (some (.cel n)) => R.d (f ρ S) fun d S1 => (match S1[n]? with
  | some (.dct true kvs) => (match a0r (mkD true kvs) d with | some (some x) => .ok (.val x) S1 | _ => .bad)
  | _ => .bad)
 | _ => .bad) := rfl
section
variable {G : Cc} {W : WX} {o : Gh} {c : Cs} {ρ : En} {S : Sto} {σ : L2.St} {H : Hp} {b : Expr} {f2 : SE} {pos : Pos}
theorem c1H {K : PySem.W.Frag} {a : Addr} {y : V} {ks : List D} {vs : List V} {ds : List D} {kd d : D} (hd : DAt K true H a ks vs) (ra : RepAll K o H vs ds) (r2 : RepU K o H y kd) (h : a0r (mkD true (ks.zip ds)) kd = some (some d)) :
  ∃ (b : Addr) (l : List (List Int × V)) (xs : List (List Int × Addr × Value)) (k : List Int) (v : V), y = .ref b ∧ HX H a xs ∧ KX K H l xs ∧ SqT K H b (k.map V.int) ∧ valV l k = some v ∧ Rep K o H v d := by
 have hu := hd.un (ds := ds)
 unfold a0r at h
 cases ek : keyOf kd with
 | none => rw [ek] at h; cases h
 | some k =>
  rw [ek, hu] at h
  dsimp only at h
  split at h
  ·rename_i hc
   have hc : a1T k = true := by
    rw [Bool.or_eq_true, Bool.and_eq_true] at hc
    rcases hc with hc | ⟨_, hc⟩
    ·cases k <;> cases hc
    ·exact hc
   obtain ⟨ns, rfl⟩ := J9 hc
   have h' := Option.some.inj h
   obtain ⟨kvs', xs, hH, kx, hs, rfl, rfl⟩ := hd
   have ey := G2 ek
   subst ey
   obtain ⟨b, us, rfl, sb, _, rb⟩ := r2.tupV
   have eu : us = ns.map V.int := Q6 rb
   subst eu
   obtain ⟨g1, _⟩ := L6 (fun k => .tuple (k.map PyData.int)) G3 t8 F9 ns kvs' ds ra
   obtain ⟨v, l1, rv⟩ := g1 d h'
   exact ⟨b, kvs', xs, ns, v, rfl, hH, kx, sb, l1, rv⟩
  ·cases h
theorem b3e (i : Nat) {x : Str} {xpos : Pos} (h2 : UV G b f2) (hs : PlainIx b := by exact fun _ _ => rfl) (hN : G.N[i]? = some x := by rfl) (hv : Vis G.sc x := by first | exact Or.inl rfl | exact Or.inr (Or.inl rfl) | exact Or.inr (Or.inr rfl))
  (hd : (x == ("__debug__" : Str)) = false := by decide) (hcd : (x == ("__classdict__" : Str)) = false := by decide) : EV G (.Subscript (.Name x xpos) b pos) (a0O i f2) := by
 obtain ⟨t2, p2, q2⟩ := h2
 refine ⟨fun W => tOp (c0R G.K) (tVar i) (t2 W), fun X W k => by have := pe_ix (pos := pos) (c3P (X := X) (by have := k.units; omega)) (pe_var (pos := xpos) (k.at hN) (k.vis hv) hd hcd) (p2 X W k) hs; rw [k.K] at this; exact this, fun W σ H ρ S o c Q nt rs p => ?_⟩
 unfold a0O at p
 split at p
 ·rename_i n e
  obtain ⟨v, e1, r⟩ := rs.slot i _ e
  refine ⟨v, e1, (q2 W).d nt rs p fun d S1 v1 o1 c1 H1 s1 nt1 rs1 r1 p1 => ?_⟩
  obtain ⟨a, ea, ev⟩ := r
  have ea' := a06 s1.pre ea
  split at p1
  ·rename_i kvs q0
   split at p1
   ·rename_i x ex
    obtain ⟨_, ks, vs, ds, h1, h2, h3, h4, h5⟩ := rs1.cs.at ea' q0
    subst h5
    obtain ⟨b, l, xs, k, v', eb, hH, kx, sb, l1, rv⟩ := c1H h1.r h4 r1 ex
    exact ⟨a, b, l, xs, k, v', ev, eb, hH, kx, sb, l1, f7 rs1 p1 rv⟩
   ·exact p1.elim
  ·exact p1.elim
 ·exact p.elim
end
end BV
namespace BV
open PySem PySem.Spec PyProof.Rows L2
def w6 (ds : List D) : List D := ds.mergeSort (PySem.W.dataLe false id)
theorem b1A {P : V → D → Prop} : ∀ {xs : List V} {us : List Value} {ds : List D}, Vals xs us → Paired P xs ds → PySem.W.EachIs (fun u d => ∃ v, RelV v u ∧ P v d) us ds
 | _, _, _, .nil, .nil => .nil
 | _, _, _, .cons r rs, .cons p ps => .cons ⟨_, r, p⟩ (b1A rs ps)
theorem a42 {P : V → D → Prop} : ∀ {us : List Value} {ds : List D}, PySem.W.EachIs (fun u d => ∃ v, RelV v u ∧ P v d) us ds → ∃ zs, Vals zs us ∧ Paired P zs ds
 | _, _, .nil => ⟨[], .nil, .nil⟩
 | _, _, .cons h t => by
  obtain ⟨v, r, p⟩ := h
  obtain ⟨zs, rs, ps⟩ := a42 t
  exact ⟨v :: zs, .cons r rs, .cons p ps⟩
section
variable {X : Cx}
end
theorem a2s {K : PySem.W.Frag} {o : Gh} {H : Hp} : ∀ {vs : List V} {ds : List D}, RepAll K o H vs ds → (∀ d ∈ ds, A0 d = true) → Paired (fun v d => Rep K o H v d ∧ A0 d = true) vs ds
 | _, _, .nil, _ => .nil
 | _, _, .cons v d vs ds r rs, h => .cons ⟨r, h d (List.mem_cons_self ..)⟩ (a2s rs fun d hd => h d (List.mem_cons_of_mem _ hd))
theorem a2c {K : PySem.W.Frag} {o : Gh} {H : Hp} : ∀ {vs : List V} {ds : List D}, Paired (fun v d => Rep K o H v d ∧ A0 d = true) vs ds → RepAll K o H vs ds
 | _, _, .nil => .nil
 | _, _, .cons h t => .cons _ _ _ _ h.1 (a2c t)
section
variable {G : Cc}
end
end BV
namespace BV
open PySem PySem.Spec PyProof.Rows L2
def a7a : D → Bool
 | .tuple (_ :: _) => true
 | _ => false
def U4 (ds : List D) : Bool := ds.all (fun d => ds.all (PySem.W.alike d)) && ds.all a7a && ds.all (fun d => decide (d.depth ≤ 20)) && ds.all A0 && decide (ds.length ≤ 10000)
def b8w (K : PySem.W.Frag) : List V → Hp → VK → Prop := fun vs H Q => ∃ (a : Addr) (xs : List V) (ds : List D) (P : V → D → Prop), vs = [.ref a] ∧ SqL K H a xs ∧ Paired P xs ds ∧ (∀ v d, P v d → Dp K H v d) ∧ U4 ds = true ∧
 ∀ (zs : List V) (q : Addr), Paired P zs (w6 ds) → H q = none → Q (.ref q) (upd H q (.lst zs))
section
variable {X : Cx}
theorem b3N (hu : X.A.units + 64 < cLine) : CallR X (.builtin "sorted") (b8w X.K) := by
 intro pins s σ H vs us Q I r h
 obtain ⟨a, xs, ds, P, rfl, hs, pr, dp, ok, q⟩ := h
 obtain ⟨its, rv, hl, hz⟩ := I.list hs
 rw [Vals.ref1 r]
 unfold U4 at ok
 simp only [Bool.and_eq_true, List.all_eq_true, decide_eq_true_eq] at ok
 obtain ⟨⟨⟨⟨o1, o2⟩, o3⟩, o4⟩, o5⟩ := ok
 have e := b1A rv pr
 have er : PySem.W.EachIs (fun v b => ∃ as, Reads s.heap v (id b) as) its ds := e.mono fun u d ⟨v, rl, p⟩ => Dp.reads I d v u (dp v d p) rl
 refine PySem.W.sorted_data (bs := ds) (enc := id) (R := fun u d => ∃ v, RelV v u ∧ P v d) hl.isList e er (by rw [List.map_id]; exact fun d hd d' hd' => o1 d hd d' hd') (by
  rw [List.map_id]
  left
  intro d hd
  have := o2 d hd
  unfold a7a at this
  split at this
  ·exact ⟨_, _, rfl⟩
  ·cases this) (Nat.le_trans o5 (by decide)) (fun b hb => by have := o3 b hb; show _ + 2 + b.depth < _; omega) fun out h1 h2 => ?_
 obtain ⟨zs, rz, pz⟩ := a42 h2
 obtain ⟨ep, he'⟩ := PyProof.Rows.sortedAll_at s.heap its out.toArray
 have hlen : zs.length ≤ sizeLine := by
  rw [rz.length, h1]
  exact Nat.le_trans o5 (by decide)
 exact ⟨.ref _, upd H (s.heap.objs.size + 1) (.lst zs), I.laid (t' := s.toks) (fun _ _ => PyProof.Rows.sortedAll_old) (Nat.le_succ _) ⟨hlen, out, ep, rz, he'⟩, rfl, q zs _ pz (I.hok.fresh (Nat.le_succ _))⟩
end
def a0A : List D → Option T
 | [.list ds] => if U4 ds = true then some (.own (w6 ds)) else none
 | _ => none
section
variable {G : Cc}
theorem a8K : BF G "sorted" a0A := ⟨"sorted", _, by decide +kernel, fun X W k => by
  have := b3N (X := X) k.units
  rw [k.K] at this
  exact this, by
 intro G' W o c ρ S σ H vs ds t Q hK rs r e p
 rw [← hK] at r ⊢
 unfold a0A at e
 split at e
 ·rename_i es
  obtain ⟨v, rfl, r'⟩ := r.one
  obtain ⟨a, us, e1, h1, _, z1, ra⟩ := r'.lstV
  subst e1
  split at e
  ·rename_i ok
   cases e
   have ok' := ok
   unfold U4 at ok'
   simp only [Bool.and_eq_true, List.all_eq_true, decide_eq_true_eq] at ok'
   obtain ⟨⟨⟨⟨_, _⟩, _⟩, o4⟩, o5⟩ := ok'
   refine ⟨a, us, es, _, rfl, .of h1, a2s ra o4, fun v d h => (RepU.of v d h.1).dp h.2, ok, fun zs q pz n => ?_⟩
   have rz := a2c pz
   refine D9 (hK ▸ rs) p n ?_ rz
   rw [rz.length]
   unfold w6
   rw [List.length_mergeSort]
   exact Nat.le_trans o5 (by decide)
  ·cases e
 ·cases e⟩
end
end BV
namespace BV
open PySem L2

section
variable {K : PySem.W.Frag} {o o1 : Gh} {c c1 : Cs} {ρ : En} {S : Sto} {σ : L2.St} {H H1 : Hp} {a : Addr} {u : HO} {w : Ow} {v : V} {t : T}
end
end BV
namespace BV
open PySem L2

section
variable {M : Model} {A : Around} {E : Value → Shared → Prop} {s : Shared} {env : PySem.Env}
end

section
variable {M : Model} {A : Around} {E : Value → Shared → Prop} {s : Shared} {Z : Obj → Prop} {B : Heap} {env env' : PySem.Env} {outer : List PySem.Env} {L L' a : Addr}
end

section
variable {X : Cx}
end

section
variable {G : Cc} {W : WX} {pos : Pos} {e tg : Expr}
end
end BV
namespace BV
open PySem PySem.Spec PyProof.Rows L2

section
variable {G : Cc}
end
end BV
namespace BV
open PySem PySem.Spec PyProof.Rows L2
open He (ba eqO eqO_ok ga ma)

section
variable {P : Program} {w : World} {K : PySem.W.Frag} {mg : Str → Option Value} {base : Heap} {CX : CXT}
end

section
variable {G : Cc} {pos : Pos}
end
end BV
namespace BV
open PySem PySem.Spec PyProof.Rows L2
open He (ba eqO eqO_ok ga)

end BV
namespace BV
open PySem PySem.Spec PyProof.Rows L2

section
variable {G : Cc} {pos : Pos} {f : SE} {fs : SA}
end
end BV
namespace BV
open PySem L2

section
variable {G : Cc} {W : WX} {o o1 : Gh} {c c1 : Cs} {ρ : En} {S : Sto} {σ : L2.St} {H H1 : Hp} {pos xp lp ap cp : Pos} {i j : Nat} {x l : Str}
theorem RS.any {K : PySem.W.Frag} {v : V} (rs : RS K o c ρ S σ H) (h : ∀ t, ρ[j]? ≠ some (some t)) : RS K o c ρ S (σ.set j (some v)) H := ⟨by rw [List.length_set]; exact rs.len, fun m t e => by
 have hj : j ≠ m := fun z => h t (z ▸ e)
 rw [List.getElem?_set_ne hj]
 exact rs.slot m t e, rs.cs⟩
end
section
variable {G : Cc} {W : WX} {o : Gh} {c : Cs} {ρ : En} {S : Sto} {σ : L2.St} {H : Hp} {i : Nat} {a : Addr}
end
section
variable {G : Cc} {e : Expr} {g : SB}
end
end BV
namespace BV
open PySem L2
section
variable {G : Cc} {W : WX} {o o1 : Gh} {c c1 : Cs} {ρ : En} {S : Sto} {σ : L2.St} {H H1 : Hp} {pos : Pos}
end
section
variable {i jp jl k r : Nat} {fe : SE} {ρ : En} {S : Sto}
end
section
variable {G : Cc} {e : Expr} {f : SE}
end
end BV
namespace BV
open PySem L2
section
variable {G : Cc} {W : WX} {o o1 : Gh} {c c1 : Cs} {ρ : En} {S : Sto} {σ : L2.St} {H H1 : Hp} {pos : Pos}
end
section
variable {i jl k r : Nat} {fe : SE} {ρ : En} {S : Sto}
end
section
variable {K : PySem.W.Frag} {o : Gh} {w : Ow} {H : Hp}
end
section
variable {G : Cc} {pos : Pos} {e : Expr} {f : SE}
end
section
variable {G : Cc} {e : Expr} {f : SE} {pos : Pos}
end
end BV
namespace BV
open PySem PySem.Spec PyProof.Rows L2
section
variable {X : Cx}
end
def c2G : List D → Option T
 | [.str x] => if x.length ≤ 640 then (PySem.intText? x).map fun n => .val (.int n) else none
 | _ => none
end BV
namespace BV
open PySem PySem.Spec PyProof.Rows L2
open He (ba eqO eqO_ok ga)

inductive Tst (X : Cx) : Expr → List Value → Prop
 | one {x : Str} {c : Value} {p : Pos} (h : Names X x c) : Tst X (.Name x p) [c]
 | two {x y : Str} {c d : Value} {p q r : Pos} {k : Nat} (h : Names X x c) (h' : Names X y d) : Tst X (.Tuple [.Name x p, .Name y q] k r) [c, d]
structure Air (X : Cx) (Z : Obj → Prop) (pins : List (Addr × Obj)) (σ : L2.St) (H : Hp) (a : Addr) (B : Heap) (sI sE : Shared) (h : Heap) : Prop where
 inv : Inv X pins σ H sI
 nb : ∀ b o, sI.heap.get? b = some o → b ∉ frs X.stack → B.get? b = some o
 up : sI.heap.UpToSlots h
 fl : HandSPX.FlyingZ B (X.env :: X.outer) a Z h
 na : H a = none
 os : sE.os = sI.os
 ag : AllBare sE.gens
section
variable {X : Cx} {Z : Obj → Prop} {pins : List (Addr × Obj)} {σ : L2.St} {H : Hp} {a : Addr} {B h h1 : Heap} {sI sE : Shared} {cls : Value} {d : Option Addr}
theorem Air.more (A : Air X Z pins σ H a B sI sE h) (k : ∀ b o, h.get? b = some o → h1.get? b = some o) : Air X Z pins σ H a B sI sE h1 := by
 obtain ⟨f1, f2, f3, oe, vs, T, oT, ts, g1, g2, g3, g4, g5, g6, g7, g8⟩ := A.fl
 exact ⟨A.inv, A.nb, A.up.trans (Heap.UpToSlots.of_keeps k), ⟨fun b o e => k _ _ (f1 b o e), f2, f3.of_keeps fun b o e _ => ⟨o, k _ _ e, rfl⟩, oe, vs, T, oT, ts, k _ _ g1, g2, g3, g4, g5, g6, k _ _ g7, g8⟩, A.na, A.os, A.ag⟩
theorem Air.turn (A : Air X Z pins σ H a B sI sE h) (fl : HandSPX.FlyingZ B (X.env :: X.outer) a Z h1) (up : h.UpToSlots h1) : Air X Z pins σ H a B sI sE h1 := ⟨A.inv, A.nb, A.up.trans up, fl, A.na, A.os, A.ag⟩
theorem Air.inside (A : Air X Z pins σ H a B sI sE h) (hs : X.stack = X.env :: X.outer) (hf : X.env.frame = some X.env.locals) : ∃ oe vs, Z oe ∧ h.get? a = some oe ∧ oe.data = .fields vs ∧ Inv (X.suite a ((a, oe) :: (X.pn ++ pins))) [] σ H { sE with heap := h } := by
 have J : Inv X pins σ H { sE with heap := h } := A.inv.landed (s' := { sE with heap := h }) A.nb A.fl.1 A.up A.os A.ag
 obtain ⟨oe, vs, e1, e2, e3⟩ := A.fl.there
 have out : a ∉ frs (X.env :: X.outer) := fun hm => by
  obtain ⟨_, o, e4, e5⟩ := A.fl.2.2.1.mem hm
  cases e1.symm.trans e4
  exact e5 _ e3
 refine ⟨oe, vs, e2, e1, e3, J.suite e1 e3 A.na (fun z => ?_) fun z => ?_⟩
 ·exact out (List.mem_filterMap.mpr ⟨X.env, List.mem_cons_self, by rw [hf, z]⟩)
 ·obtain ⟨e, m, q⟩ := List.mem_filterMap.mp z
  exact out (List.mem_filterMap.mpr ⟨e, List.mem_cons_of_mem _ m, q⟩)
theorem Air.name (A : Air X Z pins σ H a B sI sE h) (hs : X.stack = X.env :: X.outer) (hf : X.env.frame = some X.env.locals) {x : Str} {c : Value} {p : Pos} (hc : Names X x c) {Q E : Value → Shared → Prop} (q : Q c { sE with heap := h }) :
  wpAny (model X.prog X.w) (X.A.mark (some (.ref a))) (eval (.Name x p) X.env) Q E { sE with heap := h } := by
 obtain ⟨oe, _, _, _, _, S⟩ := A.inside hs hf
 obtain ⟨q1, q2, q3⟩ := hc
 rcases q3 with q3 | ⟨q3, q4, q5⟩
 ·exact ld_glob S q1 q3 q q2
 ·exact ld_blt S q1 q3 q4 q q5 q2
theorem Air.test (A : Air X Z pins σ H a B sI sE h) (hz : ∀ o, Z o → Zc cls d o) (hs : X.stack = X.env :: X.outer) (hf : X.env.frame = some X.env.locals) {t : Expr} {us : List Value} {b : Bool} (ht : Tst X t us) (hx : PySem.W.exmAny X.K cls us = some b)
  {Q : Bool → Shared → Prop} {E E' : Value → Shared → Prop} (q : ∀ h1, Air X Z pins σ H a B sI sE h1 → Q b { sE with heap := h1 }) :
  wpAny (model X.prog X.w) (X.A.mark (some (.ref a))) (eval t X.env) (fun c s1 => wpAny (model X.prog X.w) (X.A.mark (some (.ref a))) (excMatches (.ref a) c) Q E s1) E' { sE with heap := h } := by
 have J : Inv X pins σ H { sE with heap := h } := A.inv.landed (s' := { sE with heap := h }) A.nb A.fl.1 A.up A.os A.ag
 obtain ⟨oe, vs, e1, e2, e3⟩ := A.fl.there
 have LT : PySem.W.Looks (model X.prog X.w) h (typeOf (.ref a)) cls := fun A' Q' E' s k q' => wpAny_typeOf_ref (k _ _ e1) (by rw [(hz _ e2).1]; exact q')
 cases ht with
 | one hc =>
  obtain ⟨b1, b2, h1, h2, rfl⟩ := PySem.W.exmAny_cons hx
  cases (show some false = some b2 from h2)
  rw [Bool.or_false] at q
  have LM := PySem.W.exm_one (M := model X.prog X.w) J.kIn LT h1
  exact A.name hs hf hc (LM.here (q h A))
 | @two x y c d' p q' r kk hc hc' =>
  refine wpAny_Tuple ?_
  refine wpAny_items_cons (A.name hs hf hc ?_)
  refine wpAny_items_cons (A.name hs hf hc' ?_)
  refine wpAny_items_nil ⟨by size_fits, ?_⟩
  have kp : ∀ b o, h.get? b = some o → (h.push { cls := .type "tuple", data := .seq [c, d'].toArray }).get? b = some o := fun _ _ z => Heap.get?_push_of_some _ z
  have LM := PySem.W.exm_tup2 (M := model X.prog X.w) (J.kIn.keeps kp) (LT.keeps kp) (Heap.get?_push_size h rfl) hx
  exact LM.here (q _ (A.more kp))
end
section
variable {X : Cx} {body : List Stmt} {h₀ : ExceptHandler} {hds : List ExceptHandler} {l : List (List Value × Nat × (Addr → Value → Option Addr → TS))} {pos : Pos} {tb : WX → TS} {Wout : WX}
end

section
variable {G : Cc} {pos : Pos}
end
end BV
namespace BV
open PySem L2
section
variable {G : Cc} {vol : Ow → Prop} {tg e1 e2 e3 : Expr} {fs : SU} {p pos : Pos}
end
end BV
namespace BV
open PySem PySem.Spec PyProof.Rows L2
section
variable {prog : Program} {w : World} {A : Around} {R : Result → Shared → Prop} {E : Value → Shared → Prop} {I : Addr} {fp wr : List Addr} {n : Nat} {P : Nat → Value → Prop} {St : Nat → Heap → Prop} {T : Nat → Heap → Value → Prop}
end
section
variable {prog : Program} {w : World} {A : Around} {E : Value → Shared → Prop} {s : Shared}
end
section
variable {X : Cx} {pins : List (Addr × Obj)} {σ : L2.St} {H : Hp} {s : Shared}
end
section
variable {G : Cc} {W : WX} {o o1 : Gh} {c c1 : Cs} {ρ : En} {σ : L2.St} {H : Hp} {S : Sto} {pos p pl : Pos} {a : Expr} {f : SE}
end
end BV
namespace BV
open PySem PySem.Spec PyProof.Rows L2

section
variable {prog : Program} {w : World} {A : Around}
end
section
variable {K : PySem.W.Frag} {o : Gh} {c : Cs} {H : Hp} {a b : Addr} {vs ws : List V} {ds es : List D} {vol : Ow → Prop}
end
section
variable {G : Cc} {pos p tpos : Pos} {e e1 e2 : Expr} {es elts : List Expr} {kk : Nat} {f f1 f2 : SE} {fs : SU} {vol : Ow → Prop}
end
end BV
namespace BV
open PySem PySem.Spec PyProof.Rows L2
open He (ba eqO eqO_ok ga)

end BV
namespace BV
open PySem PySem.Spec PyProof.Rows L2

section
variable {prog : Program} {w : World} {A : Around} {E : Value → Shared → Prop} {s : Shared}
end
section
variable {G : Cc} {pos : Pos}
end
end BV
namespace BV
open PySem PySem.Spec PyProof.Rows L2
def top (i : Nat) : Stmt := PySem.Challenge.pw_ribboncast_k20_laid_out.main.body.getD i (.Pass ⟨0, 0, 0, 0⟩)
def U6 : Stmt := top 19
def a2v : Stmt := top 20
def T9 : Stmt := top 21
def a2Y : Stmt := top 22
def X2 : Stmt := top 23
def L4 : Stmt := top 24
def G0 : Stmt := top 25
def N9 : Stmt := top 26
def a03 : Stmt := top 27
def X8 : Stmt := top 29
def a0G : Stmt := top 30
def Y8 : Stmt := top 31
def M0 : Stmt := top 32
def L8 : Stmt := top 33
def N8 : Stmt := top 34
def X9 : Stmt := top 35
def T2 : Stmt := top 36
def M7 : Stmt := top 37
def I4 : Stmt := top 38
def Y7 : Stmt := top 39
def H9 : Stmt := top 40
def T6 : Stmt := top 41
def b5U : Stmt := top 42
def a4C : He.DefD := ddO "counts_of" U6
def b1K : He.DefD := ddO "onward" a2v
def a5d : He.DefD := ddO "most_rows" T9
def b1X : He.DefD := ddO "stairs" a2Y
def a6t : He.DefD := ddO "best_way" X2
def a1C : He.DefD := ddO "contents_of" L4
def a0i : He.DefD := ddO "rows_of_units" G0
def a2x : He.DefD := ddO "with_blank" N9
def a9Y : He.DefD := ddO "lay_out" a03
def a50 : He.DefD := ddO "_law_cell" X8
def a9W : He.DefD := ddO "_law_bag" a0G
def a7t : He.DefD := ddO "_law_take" Y8
def a1w : He.DefD := ddO "_law_name_by" M0
def a1R : He.DefD := ddO "_law_letters" L8
def a3c : He.DefD := ddO "_law_fewest" N8
def a7M : He.DefD := ddO "_law_due" X9
def a4L : He.DefD := ddO "_law_whole" T2
def a1L : He.DefD := ddO "_law_is_rows" M7
def a0I : He.DefD := ddO "_law_cells_of" I4
def a6u : He.DefD := ddO "_law_good" Y7
def a02 : He.DefD := ddO "_law_is_alone" H9
def a4H : He.DefD := ddO "_law_said" T6
def b9l : He.DefD := ddO "law" b5U
def c37 : List He.DefD := [a4C, b1K, a5d, b1X, a6t, a1C, a0i, a2x, a9Y, a50, a9W, a7t, a1w, a1R, a3c, a7M, a4L, a1L, a0I, a6u, a02, a4H, b9l]
def dfL : List He.DefD := c37
def c4a : List He.Fa := [.glo "counts_of", .glo "onward", .glo "most_rows", .glo "stairs", .glo "best_way", .glo "contents_of", .glo "rows_of_units", .glo "with_blank", .glo "lay_out", .glo "_law_cell", .glo "_law_bag", .glo "_law_take", .glo "_law_name_by", .glo "_law_letters", .glo "_law_fewest", .glo "_law_due", .glo "_law_whole", .glo "_law_is_rows", .glo "_law_cells_of", .glo "_law_good", .glo "_law_is_alone", .glo "_law_said", .glo "law", .int "MOST_UNITS" 30, .free "abs", .free "all", .free "bool", .free "int", .free "isinstance", .free "len"]
def c4L : List He.Fa := [.free "list", .free "max", .free "min", .free "range", .free "sorted", .free "str", .free "tuple", .free "zip", .glo "NoLayout", .exc "NoLayout", .free "ValueError"]
def faL : List He.Fa := c4a ++ c4L
def exL : List (PySem.W.Frag → Bool) := [fun K => b1O K "CastError", fun K => a6y K, fun K => T8 K "Loose", fun K => T8 K "NoCase", fun K => T8 K "NoEnd", fun K => T8 K "NoHoles", fun K => T8 K "NoLayout", fun K => T8 K "NoLine", fun K => T8 K "NoLines", fun K => T8 K "NoMold", fun K => T8 K "NoName", fun K => T8 K "NoPaper", fun K => T8 K "NoRow", fun K => T8 K "NoStep", fun K => T8 K "NoText", fun K => T8 K "Tight", fun K => T8 K "TooMany", fun K => c2q K]
def tsL : List He.Tab := []
def c41 : List Str := ["CastError", "NoHoles", "NoCase", "NoName", "NoLayout", "Tight", "Loose", "NoLines", "TooMany", "NoEnd", "NoMold", "NoLine", "NoPaper", "NoText", "NoRow", "NoStep", "MOST_UNITS", "counts_of", "onward", "most_rows", "stairs", "best_way", "contents_of", "rows_of_units", "with_blank", "lay_out", "_law_cell", "_law_bag", "_law_take", "_law_name_by"]
def c4R : List Str := ["_law_letters", "_law_fewest", "_law_due", "_law_whole", "_law_is_rows", "_law_cells_of", "_law_good", "_law_is_alone", "_law_said"]
def nmL : List Str := c41 ++ c4R
abbrev Rw : PySem.W.OpenRow := PySem.W.OpenLaw.row PySem.Challenge.rw_ribboncast_k20_laid_out
abbrev hk : PySem.W.Hook := b8x 4 faL dfL tsL exL
def ob (s : PySem.W.SharedT) : AlB := c1A 4 faL dfL tsL exL (HandSHeadRun.getT s)
theorem ob_eq (s : PySem.W.SharedT) : ob s = hk.obs s.abs := b51 (HandSHeadRun.getT_eq s)
set_option maxHeartbeats 0 in
theorem run (w : World) : HandSHeadRun.RunEq Rw (PySem.W.view Rw.prog [42]) hk ob 9000 nmL w := by
 intro os
 kernel_rfl
end BV
namespace BV
open PySem L2

def Q2 : SS := k7 (sIf (cB (d5 gLt (b7 1) (a00 0))) (G9 (a2h 0 (b7 1))) r7)
  (G9 (cC (.int 0)))
def B1 : Fn := fnL 2 Q2
def b6a : SE := d5 E2 (d5 E2 (d5 a3D (cC (.int 10)) (cC (.int 60))) (d5 a3D (cC (.int 10)) (cC (.int 60)))) (d5 a3D (cC (.int 10)) (cC (.int 60)))
def c3j : SE := d5 a3D (cC (.int 10)) (cC (.int 18))
def W7 : SS := k7 (u8 2 (d5 a0g (cB1 b80 (i4 (p6 B1 (d2 (l7 0) (d2 (l7 1) l8))) w3)) b6a))
  (k7 (sIf (cB (d5 gGe (b7 2) c3j)) (G9 (t9 (d2 (l7 2) (d2 (cC (.int 0)) l8)))) r7)
  (k7 (u8 3 (d5 a0g (d5 w9 (d5 w9 (b7 2) (d5 E2 (cC (.int 7919)) (b7 1))) (cC (.int 17))) (cC (.int 2147483647))))
  (k7 (a1t (a1H N6 (i4 (cB1 a3n (i4 (a00 0) (i4 (cC (.int 9)) w3))) w3)) (f8 4)
  (u8 3 (d5 a0g (d5 w9 (d5 w9 (d5 a3D (b7 3) (cC (.int 5))) (d5 a0g (a2h 0 (b7 4)) (cC (.int 2147483629)))) (d5 E2 (cC (.int 31)) (b7 4))) (cC (.int 2147483647)))))
  (G9 (t9 (d2 (l7 3) (d2 (cC (.int 1)) l8)))))))
def G8 : Fn := fnL 5 W7
def Q1 : SS := k7 (sIf (cB (d5 (gEq false) (R0 0 (cC (.int 1))) (cC (.int 0)))) (k7 (u8 2 (d5 a0g (R0 0 (cC (.int 0))) (b7 1)))
  (k7 (b0a 0 (cC (.int 0)) (d5 a4z (R0 0 (cC (.int 0))) (b7 1)))
  (a0S 2))) r7)
  (k7 (b0a 0 (cC (.int 0)) (d5 a0g (d5 w9 (d5 w9 (d5 a3D (R0 0 (cC (.int 0))) (cC (.int 5))) (d5 E2 (cC (.int 48271)) (R0 0 (cC (.int 1))))) (cC (.int 11))) (cC (.int 2147483647))))
  (k7 (b0a 0 (cC (.int 1)) (d5 w9 (R0 0 (cC (.int 1))) (cC (.int 1))))
  (G9 (d5 a0g (d5 a4z (d5 a0g (d5 E2 (R0 0 (cC (.int 0))) (cC (.int 69621))) (cC (.int 2147483629))) (cC (.int 8))) (b7 1)))))
def j5 : Fn := fnL 3 Q1

theorem O4 {n k : Nat} (h : n < 2 ^ (k + 1)) : n.log2 ≤ k := by
 by_cases z : n = 0
 ·subst z; simp
 ·have := (Nat.log2_lt z).mpr h
  omega
structure Bag (m : Nat) (a b : Int) : Prop where
 a0 : 0 ≤ a
 b0 : 0 ≤ b
 bm : b ≤ m
 mx : b = 0 ∨ a < 2147483647
theorem Bag.mono {m m' : Nat} {a b : Int} (h : Bag m a b) (hm : m ≤ m') : Bag m' a b := ⟨h.a0, h.b0, by have := h.bm; omega, h.mx⟩
theorem b2X {ns : List Int} {k : Int} {S : Sto} (h0 : 0 ≤ k) : ∃ n, B1 [.scr ns, .val (.int k)] S = .ok (.val (.int n)) S := by
 unfold B1
 by_cases h : k < ns.length
 ·obtain ⟨v, e, _⟩ := b2d (xs := ns) h0 h
  exact ⟨v, by simp [b3A, Q2, h, e]⟩
 ·exact ⟨0, by simp [b3A, Q2, h]⟩
theorem a4M {lo : Int} {n i : Nat} {d : D} (h : (j8 lo n)[i]? = some d) : i < n ∧ d = .int (lo + i) := by
 unfold j8 at h
 rw [List.getElem?_map] at h
 by_cases hi : i < n
 ·rw [List.getElem?_range hi] at h
  exact ⟨hi, by simpa using h.symm⟩
 ·rw [List.getElem?_eq_none (by rw [List.length_range]; omega)] at h
  cases h
theorem a0a {n : Nat} (h : n ≤ sizeLine) : N6 [.int (n : Int)] = some (j8 0 n) := by
 have hc : (n : Int).toNat ≤ sizeLine ∧ B0 (n : Int) = true := ⟨by rw [Int.toNat_natCast]; exact h, a0W (by omega) (by have := sizeLine_eq; omega)⟩
 show (if (n : Int).toNat ≤ sizeLine ∧ B0 (n : Int) = true then some (j8 0 (n : Int).toNat) else none) = _
 rw [if_pos hc, Int.toNat_natCast]
def c2B : Int := 10 ^ 60 * 10 ^ 60 * 10 ^ 60
def P18 : Int := 10 ^ 18
theorem a8H : 0 < c2B := by decide +kernel
@[simp] theorem b9p {ρ : En} {S : Sto} : b6a ρ S = .ok (.val (.int c2B)) S := by
 have e60 : d5 a3D (cC (.int 10)) (cC (.int 60)) ρ S = .ok (.val (.int (10 ^ 60))) S := by
  show R.d (R.ok _ S) _ = _
  show (match a3D (.int 10) (.int 60) with | some t => R.ok t S | none => .bad) = _
  rw [a56 (by decide) (by decide) (by decide)]
  rfl
 have e120 : d5 E2 (d5 a3D (cC (.int 10)) (cC (.int 60))) (d5 a3D (cC (.int 10)) (cC (.int 60))) ρ S = .ok (.val (.int (10 ^ 60 * 10 ^ 60))) S := by
  rw [b9X, e60, a2y, e60, a2y, U5 (by decide +kernel)]
 show d5 E2 (d5 E2 (d5 a3D (cC (.int 10)) (cC (.int 60))) (d5 a3D (cC (.int 10)) (cC (.int 60)))) (d5 a3D (cC (.int 10)) (cC (.int 60))) ρ S = _
 rw [b9X, e120, a2y, e60, a2y, U5 (by decide +kernel)]
 rfl
@[simp] theorem c1q {ρ : En} {S : Sto} : c3j ρ S = .ok (.val (.int P18)) S := by
 show (match a3D (.int 10) (.int 18) with | some t => R.ok t S | none => .bad) = _
 rw [a56 (by decide) (by decide) (by decide)]
 rfl
theorem b2r {a : Int} (h0 : 0 ≤ a) (h : a < 2147483647) : a3D (.int a) (.int 5) = some (.val (.int (a ^ 5))) := a56 (by decide) (by decide) (by omega)
theorem R4 {j m : Int} (h : 0 < m) : a0g (.int j) (.int m) = some (.val (.int (j % m))) := b6i h
theorem y0 {n : Nat} (h : n ≤ 100000) : n ≤ sizeLine := Nat.le_trans h (by decide)
theorem b3x {ns : List Int} {k : Int} {S : Sto} (h0 : 0 ≤ k) (h1 : k ≤ 1000) (hl : ns.length ≤ 63) : ∃ a b, G8 [.scr ns, .val (.int k)] S = .ok (.own [.int a, .int b]) S ∧ Bag 1 a b := by
 obtain ⟨n, en⟩ := b2X (ns := ns) (S := S) h0
 unfold G8
 have hk : E2 (.int 7919) (.int k) = some (.val (.int (7919 * k))) := U5 (by
  have h : (7919 : Int).natAbs.log2 ≤ 12 := by decide +kernel
  have h2 : k.natAbs.log2 ≤ 12 := O4 (by omega)
  omega)
 generalize ec : (if n < 0 then -n else n) % c2B = c
 have c0 : 0 ≤ c := by rw [← ec]; exact Int.emod_nonneg _ (Int.ne_of_gt a8H)
 have e1 : ∀ g, (W7 = k7 (u8 2 (d5 a0g (cB1 b80 (i4 (p6 B1 (d2 (l7 0) (d2 (l7 1) l8))) w3)) b6a)) g) →
   W7 (start0 5 [.scr ns, .val (.int k)]) S = g [some (.scr ns), some (.val (.int k)), some (.val (.int c)), none, none] S := fun g e => by
  rw [e]
  simp [b9p, en, R4 a8H, ec]
 rw [b3A, e1 _ rfl]
 by_cases hc : P18 ≤ c
 ·refine ⟨c, 0, ?_, ⟨c0, Int.le_refl _, by omega, .inl rfl⟩⟩
  simp [c1q, hc]
 ·have en' : (ns.length : Int) = ns.length := rfl
  -- the loop
  have em : (if (9 : Int) < ns.length then (9 : Int) else ns.length) = ((min ns.length 9 : Nat) : Int) := by
   split <;> omega
  have hmin : min ns.length 9 ≤ sizeLine := y0 (by omega)
  generalize ec3 : (c + 7919 * k + 17) % 2147483647 = c3
  have c30 : 0 ≤ c3 ∧ c3 < 2147483647 := by rw [← ec3]; constructor <;> omega
  obtain ⟨ρ', S', e2, c4, x, rfl, rfl, h4, h5⟩ := D7 (b := f8 4) (body := u8 3 (d5 a0g (d5 w9 (d5 w9 (d5 a3D (b7 3) (cC (.int 5))) (d5 a0g (a2h 0 (b7 4)) (cC (.int 2147483629)))) (d5 E2 (cC (.int 31)) (b7 4))) (cC (.int 2147483647))))
   (fun _ ρ S' => ∃ c4 x, ρ = [some (.scr ns), some (.val (.int k)), some (.val (.int c)), some (.val (.int c4)), x] ∧ S' = S ∧ (0 ≤ c4 ∧ c4 < 2147483647))
   (j8 0 (min ns.length 9)) 0 [some (.scr ns), some (.val (.int k)), some (.val (.int c)), some (.val (.int c3)), none] S ⟨c3, none, rfl, rfl, c30⟩ (by
    rintro i d ρ S2 hd ⟨c4, x, rfl, rfl, h4, h5⟩
    obtain ⟨hi, rfl⟩ := a4M hd
    have hi' : i < ns.length := by omega
    have g1 : atI ns (0 + (i : Int)) = some ns[i] := by
     rw [Int.zero_add]; exact C7 (List.getElem?_eq_getElem hi')
    rw [Int.zero_add] at g1
    have m1 : E2 (.int 31) (.int (i : Int)) = some (.val (.int (31 * (i : Int)))) := U5 (by
     have h : (31 : Int).natAbs.log2 ≤ 12 := by decide +kernel
     have h2 : (i : Int).natAbs.log2 ≤ 12 := O4 (by omega)
     omega)
    refine ⟨_, rfl, [some (.scr ns), some (.val (.int k)), some (.val (.int c)), some (.val (.int ((c4 ^ 5 + ns[i] % 2147483629 + 31 * (i : Int)) % 2147483647))), some (.val (.int (i : Int)))], S2, .inl ?_, (c4 ^ 5 + ns[i] % 2147483629 + 31 * (i : Int)) % 2147483647, _, rfl, rfl, Int.emod_nonneg _ (by decide), Int.emod_lt_of_pos _ (by decide)⟩
    simp [b2r h4 h5, R4, g1, m1])
  refine ⟨c4, 1, ?_, ⟨h4, by decide, by omega, .inr h5⟩⟩
  simp [hc, hk, R4, ec3, em, a0a hmin, e2]
theorem b1U {S : Sto} {n m : Nat} {a b k : Int} (hS : S[n]? = some (.lst [.int a, .int b])) (hb : Bag m a b) (hm : m ≤ 1000000000) (h0 : 0 < k) (h1 : k < 2 ^ 60) :
  ∃ r a' b', j5 [.cel n, .val (.int k)] S = .ok (.val (.int r)) (S.set n (.lst [.int a', .int b'])) ∧ 0 ≤ r ∧ r < k ∧ Bag (m + 1) a' b' := by
 have hk : a0g (.int a) (.int k) = some (.val (.int (a % k))) := R4 h0
 have hset : ∀ c : Ce, (S.set n c)[n]? = some c := fun c => List.getElem?_set_self (List.getElem?_eq_some_iff.mp hS).1
 have i0 : ∀ x y : D, atI [x, y] 0 = some x := fun x y => rfl
 have i1 : ∀ x y : D, atI [x, y] 1 = some y := fun x y => rfl
 have j0 : ixN 2 0 = some 0 := rfl
 have j1 : ixN 2 1 = some 1 := rfl
 unfold j5
 by_cases z : b = 0
 ·subst z
  have hd : a4z (.int a) (.int k) = some (.val (.int (a / k))) := R6 h0 (by
   have : k.natAbs.log2 ≤ 60 := O4 (by omega)
   omega)
  refine ⟨a % k, a / k, 0, ?_, Int.emod_nonneg _ (by omega), Int.emod_lt_of_pos _ h0, ⟨Int.ediv_nonneg hb.a0 (by omega), Int.le_refl _, by omega, .inl rfl⟩⟩
  simp [b3A, Q1, hS, i0, i1, j0, hk, hd]
 ·have hp := hb.mx.resolve_left z
  have hb0 := hb.b0
  have hbm := hb.bm
  have m1 : E2 (.int 48271) (.int b) = some (.val (.int (48271 * b))) := U5 (by
   have h : (48271 : Int).natAbs.log2 ≤ 20 := by decide +kernel
   have h2 : b.natAbs.log2 ≤ 40 := O4 (by omega)
   omega)
  generalize e1 : (a ^ 5 + 48271 * b + 11) % 2147483647 = a'
  have ha0 : 0 ≤ a' := by rw [← e1]; exact Int.emod_nonneg _ (by decide)
  have ha1 : a' < 2147483647 := by rw [← e1]; exact Int.emod_lt_of_pos _ (by decide)
  have m2 : E2 (.int a') (.int 69621) = some (.val (.int (a' * 69621))) := U5 (by
   have h : (69621 : Int).natAbs.log2 ≤ 20 := by decide +kernel
   have h2 : a'.natAbs.log2 ≤ 40 := O4 (by omega)
   omega)
  have d1 : ∀ j : Int, a4z (.int j) (.int 8) = some (.val (.int (j / 8))) := fun j => R6 (by decide) (by decide +kernel)
  refine ⟨a' * 69621 % 2147483629 / 8 % k, a', b + 1, ?_, Int.emod_nonneg _ (by omega), Int.emod_lt_of_pos _ h0, ⟨ha0, by omega, by omega, .inr ha1⟩⟩
  simp [b3A, Q1, hS, i0, i1, j0, j1, z, b2r hb.a0 hp, m1, R4, e1, hset, m2, d1, R4 h0]
end BV
namespace BV
open PySem L2

def HasBag (S : Sto) (n m : Nat) : Prop := ∃ a b, S[n]? = some (.lst [.int a, .int b]) ∧ Bag m a b
structure Ext (n : Nat) (S S' : Sto) : Prop where
 len : S'.length = S.length
 rest : ∀ j, j ≠ n → S'[j]? = S[j]?
theorem Ext.refl {n : Nat} {S : Sto} : Ext n S S := ⟨rfl, fun _ _ => rfl⟩
theorem Ext.trans {n : Nat} {S S1 S2 : Sto} (a : Ext n S S1) (b : Ext n S1 S2) : Ext n S S2 := ⟨b.len.trans a.len, fun j h => (b.rest j h).trans (a.rest j h)⟩
theorem Ext.set {n : Nat} {S : Sto} {c : Ce} : Ext n S (S.set n c) := ⟨List.length_set, fun j h => List.getElem?_set_ne (Ne.symm h)⟩
theorem HasBag.mono {S : Sto} {n m m' : Nat} (h : HasBag S n m) (hm : m ≤ m') : HasBag S n m' := by
 obtain ⟨a, b, e, q⟩ := h
 exact ⟨a, b, e, q.mono hm⟩
theorem b34 {S : Sto} {n m : Nat} {k : Int} (hb : HasBag S n m) (hm : m ≤ 1000000000) (h0 : 0 < k) (h1 : k < 2 ^ 60) :
  ∃ r S', j5 [.cel n, .val (.int k)] S = .ok (.val (.int r)) S' ∧ 0 ≤ r ∧ r < k ∧ HasBag S' n (m + 1) ∧ Ext n S S' := by
 obtain ⟨a, b, e, q⟩ := hb
 obtain ⟨r, a', b', h, h2, h3, h4⟩ := b1U e q hm h0 h1
 exact ⟨r, _, h, h2, h3, ⟨a', b', List.getElem?_set_self (List.getElem?_eq_some_iff.mp e).1, h4⟩, Ext.set⟩
theorem b6n (x : Str) : x.cps.toList.length = x.length := by
 show x.cps.toList.length = x.cps.size
 simp
theorem a6F {x y : Str} (h : x.length + y.length ≤ sizeLine) : w9 (.str x) (.str y) = some (.val (.str (x ++ y))) := by
 show (if _ then _ else _) = _
 rw [if_pos h]
theorem a15 (x y : Str) : (x ++ y).cps.toList = x.cps.toList ++ y.cps.toList := by
 show (x.cps ++ y.cps).toList = _
 simp
end BV
namespace BV
open PySem L2

abbrev e9 := Option (Str × Int)
def p7 : e9 → D
 | none => .none
 | some (x, i) => .tuple [.str x, .int i]
def E7 (r : List e9) : D := .tuple (r.map p7)
def v4 (units : List Int) (rows : List (List e9)) : D := .tuple [.tuple (units.map PyData.int), .tuple (rows.map E7)]
def b9s (c : e9) : Option Str := c.map Prod.fst
def I9 (rows : List (List e9)) : List Str := rows.flatten.filterMap b9s
def blank : Str := " "
structure IsName (x : Str) : Prop where
 pos : 1 ≤ x.length
 most : x.length ≤ 3
 all : ∀ c ∈ x.cps.toList, 97 ≤ c ∧ c ≤ 122
structure b8s (wide high : Nat) (units : List Int) (rows : List (List e9)) : Prop where
 w2 : 2 ≤ wide
 h2 : 2 ≤ high
 hu : units.length = high
 hr : rows.length = high
 hw : ∀ r ∈ rows, r.length = wide
 un : ∀ u ∈ units, 1 ≤ u ∧ u ≤ 30
 cell : ∀ (i j : Nat) (r : List e9) (x : Str) (c : Int), rows[i]? = some r → r[j]? = some (some (x, c)) → (x = blank ∧ c = 0) ∨ (IsName x ∧ (c = 0 ∨ c = 1 ∨ c = -1) ∧ ∃ u, units[i]? = some u ∧ 0 < u + c)
 nd : (I9 rows).Nodup
 bl : blank ∈ I9 rows
 few : (I9 rows).length ≤ 63
theorem b5B {α β : Type} {f : α → Option β} {v u : α} {y : β} (hu : f u = none) (hv : f v = some y) : ∀ {l : List α} {j : Nat}, l[j]? = some u → ((l.set j v).filterMap f).Perm (y :: l.filterMap f)
 | [], _, h => by simp at h
 | a :: l, 0, h => by
  simp at h
  subst h
  rw [List.set_cons_zero, List.filterMap_cons, hv, List.filterMap_cons, hu]
 | a :: l, j + 1, h => by
  have ih := b5B hu hv (l := l) (j := j) (by simpa using h)
  rw [List.set_cons_succ, List.filterMap_cons, List.filterMap_cons]
  cases f a with
  | none => exact ih
  | some z => exact (List.Perm.cons z ih).trans (List.Perm.swap y z _)
theorem b5n {α β : Type} {f : α → Option β} {y : β} {row row' : List α} (p : (row'.filterMap f).Perm (y :: row.filterMap f)) : ∀ {rows : List (List α)} {i : Nat}, rows[i]? = some row → ((rows.set i row').flatten.filterMap f).Perm (y :: rows.flatten.filterMap f)
 | [], _, h => by simp at h
 | a :: rows, 0, h => by
  simp at h
  subst h
  rw [List.set_cons_zero, List.flatten_cons, List.flatten_cons, List.filterMap_append, List.filterMap_append]
  exact p.append_right _
 | a :: rows, i + 1, h => by
  have ih := b5n p (rows := rows) (i := i) (by simpa using h)
  rw [List.set_cons_succ, List.flatten_cons, List.flatten_cons, List.filterMap_append, List.filterMap_append]
  exact (ih.append_left _).trans List.perm_middle
theorem b2v {rows : List (List e9)} {i j : Nat} {row : List e9} {x : Str} {c : Int} (h : rows[i]? = some row) (h' : row[j]? = some none) : (I9 (rows.set i (row.set j (some (x, c))))).Perm (x :: I9 rows) :=
 b5n (b5B (f := b9s) rfl rfl h') h
structure Laying (wide high : Nat) (units : List Int) (rows : List (List e9)) (nms : List Str) : Prop where
 hr : rows.length = high
 hw : ∀ r ∈ rows, r.length = wide
 cell : ∀ (i j : Nat) (r : List e9) (x : Str) (c : Int), rows[i]? = some r → r[j]? = some (some (x, c)) → (x = blank ∧ c = 0) ∨ (IsName x ∧ (c = 0 ∨ c = 1 ∨ c = -1) ∧ ∃ u, units[i]? = some u ∧ 0 < u + c)
 nd : (I9 rows).Nodup
 bl : blank ∈ I9 rows
 sub : ∀ x ∈ I9 rows, x = blank ∨ x ∈ nms
theorem a0v {α : Type} [DecidableEq α] : ∀ {l m : List α}, l.Nodup → (∀ x ∈ l, x ∈ m) → l.length ≤ m.length
 | [], _, _, _ => Nat.zero_le _
 | x :: l, m, h, hs => by
  have h' := List.nodup_cons.mp h
  have hx := hs x (List.mem_cons_self ..)
  have ih := a0v (l := l) (m := m.erase x) h'.2 fun y hy => (List.mem_erase_of_ne (fun z => h'.1 (by rw [← z]; exact hy))).mpr (hs y (List.mem_cons_of_mem _ hy))
  rw [List.length_erase_of_mem hx] at ih
  have : 1 ≤ m.length := by
   cases m with
   | nil => cases hx
   | cons _ _ => simp
  rw [List.length_cons]
  omega
theorem Laying.few {wide high : Nat} {units : List Int} {rows : List (List e9)} {nms : List Str} (l : Laying wide high units rows nms) : (I9 rows).length ≤ nms.length + 1 := by
 have := a0v (m := blank :: nms) l.nd fun x hx => by
  rcases l.sub x hx with e | e
  ·rw [e]; exact List.mem_cons_self ..
  ·exact List.mem_cons_of_mem _ e
 simpa using this
theorem b2B {α : Type} {l : List α} {i k : Nat} {v r : α} (h : (l.set i v)[k]? = some r) : (k = i ∧ r = v) ∨ (k ≠ i ∧ l[k]? = some r) := by
 by_cases e : k = i
 ·subst e
  have hl : k < (l.set k v).length := (List.getElem?_eq_some_iff.mp h).1
  rw [List.length_set] at hl
  rw [List.getElem?_set_self hl] at h
  exact .inl ⟨rfl, (Option.some.inj h).symm⟩
 ·rw [List.getElem?_set_ne (Ne.symm e)] at h
  exact .inr ⟨e, h⟩
theorem Laying.put {wide high : Nat} {units : List Int} {rows : List (List e9)} {nms : List Str} (l : Laying wide high units rows nms) {i j : Nat} {row : List e9} {x : Str} {c : Int} (h : rows[i]? = some row) (h' : row[j]? = some none)
  (hx : IsName x) (hb : x ≠ blank) (hn : x ∉ nms) (hc : c = 0 ∨ c = 1 ∨ c = -1) (hu : ∃ u, units[i]? = some u ∧ 0 < u + c) : Laying wide high units (rows.set i (row.set j (some (x, c)))) (nms ++ [x]) := by
 have P := b2v (x := x) (c := c) h h'
 refine ⟨by rw [List.length_set]; exact l.hr, fun r hr => ?_, fun k m r y d e1 e2 => ?_, ?_, P.mem_iff.mpr (List.mem_cons_of_mem _ l.bl), fun y hy => ?_⟩
 ·rcases List.mem_or_eq_of_mem_set hr with e | e
  ·exact l.hw r e
  ·rw [e, List.length_set]
   exact l.hw row (List.mem_of_getElem? h)
 ·rcases b2B e1 with ⟨rfl, rfl⟩ | ⟨_, e1⟩
  ·rcases b2B e2 with ⟨rfl, e⟩ | ⟨_, e2⟩
   ·simp only [Option.some.injEq, Prod.mk.injEq] at e
    obtain ⟨rfl, rfl⟩ := e
    exact .inr ⟨hx, hc, hu⟩
   ·exact l.cell k m row y d h e2
  ·exact l.cell k m r y d e1 e2
 ·refine P.nodup_iff.mpr (List.nodup_cons.mpr ⟨fun z => ?_, l.nd⟩)
  rcases l.sub x z with e | e
  ·exact hb e
  ·exact hn e
 ·rcases List.mem_cons.mp (P.mem_iff.mp hy) with e | e
  ·exact .inr (by rw [e]; simp)
  ·rcases l.sub y e with e | e
   ·exact .inl e
   ·exact .inr (List.mem_append_left _ e)
theorem b8 {g1 g2 : SS} {ρ ρ1 : En} {S S1 : Sto} {r : Fl} (h1 : g1 ρ S = .nx ρ1 S1) (h2 : g2 ρ1 S1 = r) : k7 g1 g2 ρ S = r := by rw [b0h, h1, b1L, h2]
theorem E1 {n : Nat} {g : SS} {ts : List T} {S S' : Sto} {t : T} (h : g (start0 n ts) S = .rt t S') : fnL n g ts S = .ok t S' := by rw [b3A, h]
theorem b3h {α : Type} {xs : List α} {f : Nat} (h : f ≤ xs.length) : (a19 xs (some (f : Int)) none) = xs.drop f := by
 unfold a19
 rw [HT.sIx_nat, HT.sIx_none, Nat.min_eq_left h, List.take_of_length_le (by rw [List.length_drop]; omega)]
theorem b1N {α : Type} {xs : List α} {f : Nat} : (a19 xs none (some (f : Int))) = xs.take (min f xs.length) := by
 unfold a19
 rw [HT.sIx_nat, HT.sIx_none, List.drop_zero, Nat.sub_zero]
@[simp] theorem c3F {x : Str} {lo hi : Option Int} : gSl (.str x) lo hi = some (.val (.str (cutS x lo hi))) := rfl
@[simp] theorem a2i {xs : List D} {lo hi : Option Int} : gSl (.list xs) lo hi = some (.own (a19 xs lo hi)) := rfl
@[simp] theorem c3x {xs : List D} {lo hi : Option Int} : gSl (.tuple xs) lo hi = some (.val (.tuple (a19 xs lo hi))) := rfl
def abc : Str := "abcdefghijklmnopqrstuvwxyz"
theorem b62 : ∀ c ∈ abc.cps.toList, 97 ≤ c ∧ c ≤ 122 := by decide +kernel
end BV
namespace BV
open PySem L2

@[simp] theorem c4B {i : Nat} {m : List D → List D → Option (List D × D)} {fs : SA} {k : D → En → Sto → Fl} {ρ : En} {S : Sto} : sLM i m fs k ρ S = (match ρ[i]? with
 | some (some (.own xs)) => sA fs (fun ts ρ S => match a16 ts with
  | some ds => (match m xs ds with | some (xs', d) => k d (ρ.set i (some (.own xs'))) S | none => .bad)
  | none => .bad) ρ S
 | _ => .bad) := rfl
end BV
namespace BV
open PySem L2

@[simp] theorem c1Y {src : SI} {b : BT1} {tt : SB} {elt : SE} {vs : List Nat} {ρ : En} {S : Sto} : cLc src b tt elt vs ρ S = R.l (src ρ S) fun ds S1 => R.l (lcM b tt elt (t6 ρ vs) ds S1) fun xs S2 => .ok (.own xs) S2 := rfl
@[simp] theorem c1M {src : SI} {b : BT1} {tt : SB} {elt : SE} {vs : List Nat} {ρ : En} {S : Sto} : b9B src b tt elt vs ρ S = R.l (src ρ S) fun ds S1 => R.l (b0f b tt elt (t6 ρ vs) ds S1) fun xs S2 => .ok (.own2 xs) S2 := rfl
@[simp] theorem b92 {ρ : En} {S : Sto} : a2o ρ S = .ok true S := rfl
@[simp] theorem c1O {ρ : En} : t6 ρ [] = ρ := rfl
@[simp] theorem c21 {ρ : En} {v : Nat} {vs : List Nat} : t6 ρ (v :: vs) = (t6 ρ vs).set v none := rfl
theorem E4 {lo : Int} {n : Nat} : (j8 lo n).length = n := by unfold j8; simp
theorem b1C {b : BT1} {elt : SE} {ρ : En} {S : Sto} (f : D → D) : ∀ (ds : List D), (∀ d ∈ ds, ∃ ρ1 t, b d ρ = some ρ1 ∧ elt ρ1 S = .ok t S ∧ asD t = some (f d)) → lcM b a2o elt ρ ds S = .ok (ds.map f) S
 | [], _ => rfl
 | d :: ds, h => by
  obtain ⟨ρ1, t, e1, e2, e3⟩ := h d (List.mem_cons_self ..)
  have ih := b1C f ds fun d hd => h d (List.mem_cons_of_mem _ hd)
  unfold lcM
  simp only [e1, b92, e2, e3, ih, a1g, List.map_cons]
theorem b4j {xs : List D} {k : Nat} (h : k < 2 ^ 60) (h2 : xs.length * k ≤ sizeLine) : E2 (.list xs) (.int (k : Int)) = some (.own (List.replicate k xs).flatten) := by
 have hc : B0 (k : Int) = true ∧ xs.length * (k : Int).toNat ≤ sizeLine := ⟨a0W (by omega) (by omega), by rw [Int.toNat_natCast]; exact h2⟩
 simp only [E2]
 rw [if_pos hc, Int.toNat_natCast]
theorem V9 {α : Type} (x : α) : ∀ k : Nat, (List.replicate k [x]).flatten = List.replicate k x
 | 0 => rfl
 | k + 1 => by rw [List.replicate_succ, List.flatten_cons, V9 x k]; rfl
end BV
namespace BV
open PySem L2

@[simp] theorem c5e {α : Type} {x y : α} : atI [x, y] 0 = some x := rfl
@[simp] theorem c5f {α : Type} {x y : α} : atI [x, y] 1 = some y := rfl
theorem b7k {S : Sto} {a b : Int} (h : Bag 1 a b) : HasBag (S ++ [.lst [.int a, .int b]]) S.length 1 := ⟨a, b, by rw [List.getElem?_append_right (Nat.le_refl _), Nat.sub_self]; rfl, h⟩
theorem a6k : kitB "int" "int" = some true := by decide +kernel
theorem a46 : kitB "int" "bool" = some false := by decide +kernel
@[simp] theorem b7U {i : Int} : G5 "int" (.int i) = some (.val (.bool true)) := by
 show (if q7 (.int i) = true then none else (kitB "int" "int").map fun b => T.val (.bool b)) = _
 rw [a6k]
 rfl
@[simp] theorem b7t {i : Int} : G5 "bool" (.int i) = some (.val (.bool false)) := by
 show (if q7 (.int i) = true then none else (kitB "int" "bool").map fun b => T.val (.bool b)) = _
 rw [a46]
 rfl
theorem J8 {n i : Nat} {d : D} (h : (j8 0 n)[i]? = some d) : i < n ∧ d = .int i := by
 obtain ⟨h1, h2⟩ := a4M h
 rw [Int.zero_add] at h2
 exact ⟨h1, h2⟩
theorem b7b {x y : Str} (h : x.cps.toList = y.cps.toList) : x = y := by
 obtain ⟨⟨l⟩⟩ := x
 obtain ⟨⟨m⟩⟩ := y
 simp only at h
 subst h
 rfl
theorem b5N (x : Str) : x.length = x.cps.toList.length := (b6n x).symm
theorem ok_cps {x : Str} : PyData.strOk x = true ↔ ∀ c ∈ x.cps.toList, c < 0x110000 := by
 show x.cps.all (fun y => decide (y < 0x110000)) = true ↔ _
 rw [← Array.all_toList, List.all_eq_true]
 simp
theorem b2Y {d : D} (h : N3 d = true) (hc : PyData.canLay0 d = true) : gEq false d d = some (.val (.bool true)) := by
 unfold gEq
 rw [h, SeqAt.eqv_refl d hc]
 rfl
def a2q : Nat → D → Bool
 | _, .none => true
 | _, .bool _ => true
 | _, .int _ => true
 | _, .str x => PyData.strOk x
 | 0, _ => false
 | n + 1, .list xs => xs.all (a2q n)
 | n + 1, .tuple xs => xs.all (a2q n)
 | _ + 1, .dict _ => false
theorem V5 {n : Nat} : ∀ {xs : List D}, (∀ x ∈ xs, x.depth ≤ n) → PyData.depthAll xs ≤ n
 | [], _ => by simp [PyData.depthAll]
 | x :: xs, h => by
  have h1 := h x (List.mem_cons_self ..)
  have h2 := V5 fun y hy => h y (List.mem_cons_of_mem _ hy)
  simp only [PyData.depthAll]
  omega
theorem a9s : ∀ {xs : List D}, (∀ x ∈ xs, A0 x = true) → C4 xs = true
 | [], _ => rfl
 | x :: xs, h => by rw [C4, h x (List.mem_cons_self ..), a9s fun y hy => h y (List.mem_cons_of_mem _ hy)]; rfl
theorem a6I : ∀ {xs : List D}, (∀ x ∈ xs, PyData.canLay0 x = true) → PyData.canLayAll0 xs = true
 | [], _ => by simp [PyData.canLayAll0]
 | x :: xs, h => by
  have h1 := h x (List.mem_cons_self ..)
  have h2 := a6I fun y hy => h y (List.mem_cons_of_mem _ hy)
  simp [PyData.canLayAll0, h1, h2]
theorem G4 : ∀ {n : Nat} {d : D}, a2q n d = true → A0 d = true ∧ d.depth ≤ n ∧ PyData.canLay0 d = true
 | n, .none, _ => ⟨rfl, by simp [PyData.depth], by simp [PyData.canLay0]⟩
 | n, .bool b, _ => ⟨rfl, by simp [PyData.depth], by simp [PyData.canLay0]⟩
 | n, .int i, _ => ⟨rfl, by simp [PyData.depth], by simp [PyData.canLay0]⟩
 | n, .str x, h => ⟨rfl, by simp [PyData.depth], by
  have h' : PyData.strOk x = true := by cases n <;> exact h
  exact h'⟩
 | 0, .list xs, h => nomatch h
 | 0, .tuple xs, h => nomatch h
 | 0, .dict xs, h => nomatch h
 | n + 1, .list xs, h => by
  have h' : xs.all (a2q n) = true := h
  rw [List.all_eq_true] at h'
  exact ⟨a9s fun x hx => (G4 (h' x hx)).1, by
   have := V5 fun x hx => (G4 (h' x hx)).2.1
   simp only [PyData.depth]
   omega, a6I fun x hx => (G4 (h' x hx)).2.2⟩
 | n + 1, .tuple xs, h => by
  have h' : xs.all (a2q n) = true := h
  rw [List.all_eq_true] at h'
  exact ⟨a9s fun x hx => (G4 (h' x hx)).1, by
   have := V5 fun x hx => (G4 (h' x hx)).2.1
   simp only [PyData.depth]
   omega, a6I fun x hx => (G4 (h' x hx)).2.2⟩
 | n + 1, .dict xs, h => nomatch h
end BV
namespace BV
open PySem L2

@[simp] theorem b3S : C5 "NoHoles" = true := by decide +kernel
@[simp] theorem b5L : C5 "NoCase" = true := by decide +kernel
@[simp] theorem b5z : C5 "NoName" = true := by decide +kernel
@[simp] theorem b3j : C5 "NoLayout" = true := by decide +kernel
@[simp] theorem b6A : C5 "Tight" = true := by decide +kernel
@[simp] theorem b6v : C5 "Loose" = true := by decide +kernel
@[simp] theorem b3T : C5 "NoLines" = true := by decide +kernel
@[simp] theorem b3C : C5 "TooMany" = true := by decide +kernel
@[simp] theorem b67 : C5 "NoEnd" = true := by decide +kernel
@[simp] theorem b5d : C5 "NoMold" = true := by decide +kernel
@[simp] theorem b5e : C5 "NoLine" = true := by decide +kernel
@[simp] theorem b3I : C5 "NoPaper" = true := by decide +kernel
@[simp] theorem b5a : C5 "NoText" = true := by decide +kernel
@[simp] theorem b7d : C5 "NoRow" = true := by decide +kernel
@[simp] theorem b45 : C5 "NoStep" = true := by decide +kernel
@[simp] theorem b16 : C5 "CastError" = true := by decide +kernel
@[simp] theorem b8R {x : Str} : d9 x "CastError" = true := by simp [d9]
@[simp] theorem b8f {x : Str} : d9 x "ValueError" = true := by simp [d9]
@[simp] theorem a5H : d9 "NoHoles" "NoHoles" = true := by decide +kernel
@[simp] theorem a6m : d9 "NoHoles" "NoCase" = false := by decide +kernel
@[simp] theorem a6s : d9 "NoHoles" "NoName" = false := by decide +kernel
@[simp] theorem a4w : d9 "NoHoles" "NoLayout" = false := by decide +kernel
@[simp] theorem a84 : d9 "NoHoles" "Tight" = false := by decide +kernel
@[simp] theorem a9t : d9 "NoHoles" "Loose" = false := by decide +kernel
@[simp] theorem a5B : d9 "NoHoles" "NoLines" = false := by decide +kernel
@[simp] theorem a5j : d9 "NoHoles" "TooMany" = false := by decide +kernel
@[simp] theorem a9v : d9 "NoHoles" "NoEnd" = false := by decide +kernel
@[simp] theorem a7o : d9 "NoHoles" "NoMold" = false := by decide +kernel
@[simp] theorem a7B : d9 "NoHoles" "NoLine" = false := by decide +kernel
@[simp] theorem a5g : d9 "NoHoles" "NoPaper" = false := by decide +kernel
@[simp] theorem a6P : d9 "NoHoles" "NoText" = false := by decide +kernel
@[simp] theorem a78 : d9 "NoHoles" "NoRow" = false := by decide +kernel
@[simp] theorem a5P : d9 "NoHoles" "NoStep" = false := by decide +kernel
@[simp] theorem a63 : d9 "NoCase" "NoHoles" = false := by decide +kernel
@[simp] theorem a8f : d9 "NoCase" "NoCase" = true := by decide +kernel
@[simp] theorem a7Q : d9 "NoCase" "NoName" = false := by decide +kernel
@[simp] theorem a5t : d9 "NoCase" "NoLayout" = false := by decide +kernel
@[simp] theorem b0I : d9 "NoCase" "Tight" = false := by decide +kernel
@[simp] theorem b0l : d9 "NoCase" "Loose" = false := by decide +kernel
@[simp] theorem a6S : d9 "NoCase" "NoLines" = false := by decide +kernel
@[simp] theorem a6n : d9 "NoCase" "TooMany" = false := by decide +kernel
@[simp] theorem b0F : d9 "NoCase" "NoEnd" = false := by decide +kernel
@[simp] theorem a7O : d9 "NoCase" "NoMold" = false := by decide +kernel
@[simp] theorem a8V : d9 "NoCase" "NoLine" = false := by decide +kernel
@[simp] theorem a6L : d9 "NoCase" "NoPaper" = false := by decide +kernel
@[simp] theorem a8O : d9 "NoCase" "NoText" = false := by decide +kernel
@[simp] theorem a9Q : d9 "NoCase" "NoRow" = false := by decide +kernel
@[simp] theorem a9j : d9 "NoCase" "NoStep" = false := by decide +kernel
@[simp] theorem a7x : d9 "NoName" "NoHoles" = false := by decide +kernel
@[simp] theorem a8s : d9 "NoName" "NoCase" = false := by decide +kernel
@[simp] theorem a9m : d9 "NoName" "NoName" = true := by decide +kernel
@[simp] theorem a5o : d9 "NoName" "NoLayout" = false := by decide +kernel
@[simp] theorem b0t : d9 "NoName" "Tight" = false := by decide +kernel
@[simp] theorem b00 : d9 "NoName" "Loose" = false := by decide +kernel
@[simp] theorem a6x : d9 "NoName" "NoLines" = false := by decide +kernel
@[simp] theorem a69 : d9 "NoName" "TooMany" = false := by decide +kernel
@[simp] theorem a9Z : d9 "NoName" "NoEnd" = false := by decide +kernel
@[simp] theorem a82 : d9 "NoName" "NoMold" = false := by decide +kernel
@[simp] theorem a8y : d9 "NoName" "NoLine" = false := by decide +kernel
@[simp] theorem a7z : d9 "NoName" "NoPaper" = false := by decide +kernel
@[simp] theorem a8M : d9 "NoName" "NoText" = false := by decide +kernel
@[simp] theorem b0u : d9 "NoName" "NoRow" = false := by decide +kernel
@[simp] theorem a9f : d9 "NoName" "NoStep" = false := by decide +kernel
@[simp] theorem a4Z : d9 "NoLayout" "NoHoles" = false := by decide +kernel
@[simp] theorem a5C : d9 "NoLayout" "NoCase" = false := by decide +kernel
@[simp] theorem a5u : d9 "NoLayout" "NoName" = false := by decide +kernel
@[simp] theorem a3J : d9 "NoLayout" "NoLayout" = true := by decide +kernel
@[simp] theorem a7q : d9 "NoLayout" "Tight" = false := by decide +kernel
@[simp] theorem a6r : d9 "NoLayout" "Loose" = false := by decide +kernel
@[simp] theorem a4Y : d9 "NoLayout" "NoLines" = false := by decide +kernel
@[simp] theorem a5f : d9 "NoLayout" "TooMany" = false := by decide +kernel
@[simp] theorem a6D : d9 "NoLayout" "NoEnd" = false := by decide +kernel
@[simp] theorem a5J : d9 "NoLayout" "NoMold" = false := by decide +kernel
@[simp] theorem a5L : d9 "NoLayout" "NoLine" = false := by decide +kernel
@[simp] theorem a4j : d9 "NoLayout" "NoPaper" = false := by decide +kernel
@[simp] theorem a5h : d9 "NoLayout" "NoText" = false := by decide +kernel
@[simp] theorem a6T : d9 "NoLayout" "NoRow" = false := by decide +kernel
@[simp] theorem a5y : d9 "NoLayout" "NoStep" = false := by decide +kernel
@[simp] theorem a8m : d9 "Tight" "NoHoles" = false := by decide +kernel
@[simp] theorem b0U : d9 "Tight" "NoCase" = false := by decide +kernel
@[simp] theorem b0K : d9 "Tight" "NoName" = false := by decide +kernel
@[simp] theorem a7L : d9 "Tight" "NoLayout" = false := by decide +kernel
@[simp] theorem b1n : d9 "Tight" "Tight" = true := by decide +kernel
@[simp] theorem b07 : d9 "Tight" "Loose" = false := by decide +kernel
@[simp] theorem a72 : d9 "Tight" "NoLines" = false := by decide +kernel
@[simp] theorem a9b : d9 "Tight" "TooMany" = false := by decide +kernel
@[simp] theorem b1p : d9 "Tight" "NoEnd" = false := by decide +kernel
@[simp] theorem a9D : d9 "Tight" "NoMold" = false := by decide +kernel
@[simp] theorem b0J : d9 "Tight" "NoLine" = false := by decide +kernel
@[simp] theorem a7T : d9 "Tight" "NoPaper" = false := by decide +kernel
@[simp] theorem b02 : d9 "Tight" "NoText" = false := by decide +kernel
@[simp] theorem b1b : d9 "Tight" "NoRow" = false := by decide +kernel
@[simp] theorem b0L : d9 "Tight" "NoStep" = false := by decide +kernel
@[simp] theorem a9n : d9 "Loose" "NoHoles" = false := by decide +kernel
@[simp] theorem a9F : d9 "Loose" "NoCase" = false := by decide +kernel
@[simp] theorem a96 : d9 "Loose" "NoName" = false := by decide +kernel
@[simp] theorem a7g : d9 "Loose" "NoLayout" = false := by decide +kernel
@[simp] theorem b1e : d9 "Loose" "Tight" = false := by decide +kernel
@[simp] theorem b09 : d9 "Loose" "Loose" = true := by decide +kernel
@[simp] theorem a8Z : d9 "Loose" "NoLines" = false := by decide +kernel
@[simp] theorem a7P : d9 "Loose" "TooMany" = false := by decide +kernel
@[simp] theorem b1l : d9 "Loose" "NoEnd" = false := by decide +kernel
@[simp] theorem a90 : d9 "Loose" "NoMold" = false := by decide +kernel
@[simp] theorem b0v : d9 "Loose" "NoLine" = false := by decide +kernel
@[simp] theorem a8z : d9 "Loose" "NoPaper" = false := by decide +kernel
@[simp] theorem a9T : d9 "Loose" "NoText" = false := by decide +kernel
@[simp] theorem b1h : d9 "Loose" "NoRow" = false := by decide +kernel
@[simp] theorem a93 : d9 "Loose" "NoStep" = false := by decide +kernel
@[simp] theorem a5A : d9 "NoLines" "NoHoles" = false := by decide +kernel
@[simp] theorem a6p : d9 "NoLines" "NoCase" = false := by decide +kernel
@[simp] theorem a7F : d9 "NoLines" "NoName" = false := by decide +kernel
@[simp] theorem a4A : d9 "NoLines" "NoLayout" = false := by decide +kernel
@[simp] theorem a8N : d9 "NoLines" "Tight" = false := by decide +kernel
@[simp] theorem a8L : d9 "NoLines" "Loose" = false := by decide +kernel
@[simp] theorem a5z : d9 "NoLines" "NoLines" = true := by decide +kernel
@[simp] theorem a5i : d9 "NoLines" "TooMany" = false := by decide +kernel
@[simp] theorem a8F : d9 "NoLines" "NoEnd" = false := by decide +kernel
@[simp] theorem a7v : d9 "NoLines" "NoMold" = false := by decide +kernel
@[simp] theorem a60 : d9 "NoLines" "NoLine" = false := by decide +kernel
@[simp] theorem a5K : d9 "NoLines" "NoPaper" = false := by decide +kernel
@[simp] theorem a6U : d9 "NoLines" "NoText" = false := by decide +kernel
@[simp] theorem a9o : d9 "NoLines" "NoRow" = false := by decide +kernel
@[simp] theorem a6H : d9 "NoLines" "NoStep" = false := by decide +kernel
@[simp] theorem a5q : d9 "TooMany" "NoHoles" = false := by decide +kernel
@[simp] theorem a68 : d9 "TooMany" "NoCase" = false := by decide +kernel
@[simp] theorem a7J : d9 "TooMany" "NoName" = false := by decide +kernel
@[simp] theorem a4F : d9 "TooMany" "NoLayout" = false := by decide +kernel
@[simp] theorem a8k : d9 "TooMany" "Tight" = false := by decide +kernel
@[simp] theorem a8E : d9 "TooMany" "Loose" = false := by decide +kernel
@[simp] theorem a5v : d9 "TooMany" "NoLines" = false := by decide +kernel
@[simp] theorem a5k : d9 "TooMany" "TooMany" = true := by decide +kernel
@[simp] theorem a8t : d9 "TooMany" "NoEnd" = false := by decide +kernel
@[simp] theorem a6d : d9 "TooMany" "NoMold" = false := by decide +kernel
@[simp] theorem a7l : d9 "TooMany" "NoLine" = false := by decide +kernel
@[simp] theorem a5I : d9 "TooMany" "NoPaper" = false := by decide +kernel
@[simp] theorem a6N : d9 "TooMany" "NoText" = false := by decide +kernel
@[simp] theorem a9g : d9 "TooMany" "NoRow" = false := by decide +kernel
@[simp] theorem a7d : d9 "TooMany" "NoStep" = false := by decide +kernel
@[simp] theorem a8R : d9 "NoEnd" "NoHoles" = false := by decide +kernel
@[simp] theorem a9N : d9 "NoEnd" "NoCase" = false := by decide +kernel
@[simp] theorem b0Y : d9 "NoEnd" "NoName" = false := by decide +kernel
@[simp] theorem a6q : d9 "NoEnd" "NoLayout" = false := by decide +kernel
@[simp] theorem b1g : d9 "NoEnd" "Tight" = false := by decide +kernel
@[simp] theorem b1i : d9 "NoEnd" "Loose" = false := by decide +kernel
@[simp] theorem a79 : d9 "NoEnd" "NoLines" = false := by decide +kernel
@[simp] theorem a87 : d9 "NoEnd" "TooMany" = false := by decide +kernel
@[simp] theorem b1q : d9 "NoEnd" "NoEnd" = true := by decide +kernel
@[simp] theorem a9M : d9 "NoEnd" "NoMold" = false := by decide +kernel
@[simp] theorem a99 : d9 "NoEnd" "NoLine" = false := by decide +kernel
@[simp] theorem a9C : d9 "NoEnd" "NoPaper" = false := by decide +kernel
@[simp] theorem a9E : d9 "NoEnd" "NoText" = false := by decide +kernel
@[simp] theorem b08 : d9 "NoEnd" "NoRow" = false := by decide +kernel
@[simp] theorem b0V : d9 "NoEnd" "NoStep" = false := by decide +kernel
@[simp] theorem a54 : d9 "NoMold" "NoHoles" = false := by decide +kernel
@[simp] theorem a77 : d9 "NoMold" "NoCase" = false := by decide +kernel
@[simp] theorem a9c : d9 "NoMold" "NoName" = false := by decide +kernel
@[simp] theorem a5D : d9 "NoMold" "NoLayout" = false := by decide +kernel
@[simp] theorem b0i : d9 "NoMold" "Tight" = false := by decide +kernel
@[simp] theorem b0O : d9 "NoMold" "Loose" = false := by decide +kernel
@[simp] theorem a7f : d9 "NoMold" "NoLines" = false := by decide +kernel
@[simp] theorem a5T : d9 "NoMold" "TooMany" = false := by decide +kernel
@[simp] theorem b0w : d9 "NoMold" "NoEnd" = false := by decide +kernel
@[simp] theorem a80 : d9 "NoMold" "NoMold" = true := by decide +kernel
@[simp] theorem a8h : d9 "NoMold" "NoLine" = false := by decide +kernel
@[simp] theorem a7D : d9 "NoMold" "NoPaper" = false := by decide +kernel
@[simp] theorem a81 : d9 "NoMold" "NoText" = false := by decide +kernel
@[simp] theorem b0j : d9 "NoMold" "NoRow" = false := by decide +kernel
@[simp] theorem a9B : d9 "NoMold" "NoStep" = false := by decide +kernel
@[simp] theorem a7h : d9 "NoLine" "NoHoles" = false := by decide +kernel
@[simp] theorem a85 : d9 "NoLine" "NoCase" = false := by decide +kernel
@[simp] theorem a8C : d9 "NoLine" "NoName" = false := by decide +kernel
@[simp] theorem a5M : d9 "NoLine" "NoLayout" = false := by decide +kernel
@[simp] theorem b0M : d9 "NoLine" "Tight" = false := by decide +kernel
@[simp] theorem b0q : d9 "NoLine" "Loose" = false := by decide +kernel
@[simp] theorem a6J : d9 "NoLine" "NoLines" = false := by decide +kernel
@[simp] theorem a6j : d9 "NoLine" "TooMany" = false := by decide +kernel
@[simp] theorem a9L : d9 "NoLine" "NoEnd" = false := by decide +kernel
@[simp] theorem a9p : d9 "NoLine" "NoMold" = false := by decide +kernel
@[simp] theorem a83 : d9 "NoLine" "NoLine" = true := by decide +kernel
@[simp] theorem a7s : d9 "NoLine" "NoPaper" = false := by decide +kernel
@[simp] theorem a8J : d9 "NoLine" "NoText" = false := by decide +kernel
@[simp] theorem b04 : d9 "NoLine" "NoRow" = false := by decide +kernel
@[simp] theorem a9h : d9 "NoLine" "NoStep" = false := by decide +kernel
@[simp] theorem a5p : d9 "NoPaper" "NoHoles" = false := by decide +kernel
@[simp] theorem a7K : d9 "NoPaper" "NoCase" = false := by decide +kernel
@[simp] theorem a6b : d9 "NoPaper" "NoName" = false := by decide +kernel
@[simp] theorem a3X : d9 "NoPaper" "NoLayout" = false := by decide +kernel
@[simp] theorem a8S : d9 "NoPaper" "Tight" = false := by decide +kernel
@[simp] theorem a8l : d9 "NoPaper" "Loose" = false := by decide +kernel
@[simp] theorem a5s : d9 "NoPaper" "NoLines" = false := by decide +kernel
@[simp] theorem a5n : d9 "NoPaper" "TooMany" = false := by decide +kernel
@[simp] theorem a8G : d9 "NoPaper" "NoEnd" = false := by decide +kernel
@[simp] theorem a6C : d9 "NoPaper" "NoMold" = false := by decide +kernel
@[simp] theorem a7n : d9 "NoPaper" "NoLine" = false := by decide +kernel
@[simp] theorem a5E : d9 "NoPaper" "NoPaper" = true := by decide +kernel
@[simp] theorem a6Z : d9 "NoPaper" "NoText" = false := by decide +kernel
@[simp] theorem a9d : d9 "NoPaper" "NoRow" = false := by decide +kernel
@[simp] theorem a5S : d9 "NoPaper" "NoStep" = false := by decide +kernel
@[simp] theorem a6a : d9 "NoText" "NoHoles" = false := by decide +kernel
@[simp] theorem a8I : d9 "NoText" "NoCase" = false := by decide +kernel
@[simp] theorem a89 : d9 "NoText" "NoName" = false := by decide +kernel
@[simp] theorem a5F : d9 "NoText" "NoLayout" = false := by decide +kernel
@[simp] theorem a98 : d9 "NoText" "Tight" = false := by decide +kernel
@[simp] theorem b0m : d9 "NoText" "Loose" = false := by decide +kernel
@[simp] theorem a7r : d9 "NoText" "NoLines" = false := by decide +kernel
@[simp] theorem a51 : d9 "NoText" "TooMany" = false := by decide +kernel
@[simp] theorem b0e : d9 "NoText" "NoEnd" = false := by decide +kernel
@[simp] theorem a8v : d9 "NoText" "NoMold" = false := by decide +kernel
@[simp] theorem a88 : d9 "NoText" "NoLine" = false := by decide +kernel
@[simp] theorem a6f : d9 "NoText" "NoPaper" = false := by decide +kernel
@[simp] theorem a8T : d9 "NoText" "NoText" = true := by decide +kernel
@[simp] theorem a9G : d9 "NoText" "NoRow" = false := by decide +kernel
@[simp] theorem a8d : d9 "NoText" "NoStep" = false := by decide +kernel
@[simp] theorem a9a : d9 "NoRow" "NoHoles" = false := by decide +kernel
@[simp] theorem a91 : d9 "NoRow" "NoCase" = false := by decide +kernel
@[simp] theorem b01 : d9 "NoRow" "NoName" = false := by decide +kernel
@[simp] theorem a5Q : d9 "NoRow" "NoLayout" = false := by decide +kernel
@[simp] theorem b1d : d9 "NoRow" "Tight" = false := by decide +kernel
@[simp] theorem b1c : d9 "NoRow" "Loose" = false := by decide +kernel
@[simp] theorem a8b : d9 "NoRow" "NoLines" = false := by decide +kernel
@[simp] theorem a8x : d9 "NoRow" "TooMany" = false := by decide +kernel
@[simp] theorem b1o : d9 "NoRow" "NoEnd" = false := by decide +kernel
@[simp] theorem b0G : d9 "NoRow" "NoMold" = false := by decide +kernel
@[simp] theorem b0P : d9 "NoRow" "NoLine" = false := by decide +kernel
@[simp] theorem a86 : d9 "NoRow" "NoPaper" = false := by decide +kernel
@[simp] theorem b0R : d9 "NoRow" "NoText" = false := by decide +kernel
@[simp] theorem b1m : d9 "NoRow" "NoRow" = true := by decide +kernel
@[simp] theorem b0x : d9 "NoRow" "NoStep" = false := by decide +kernel
@[simp] theorem a6v : d9 "NoStep" "NoHoles" = false := by decide +kernel
@[simp] theorem a8g : d9 "NoStep" "NoCase" = false := by decide +kernel
@[simp] theorem a7U : d9 "NoStep" "NoName" = false := by decide +kernel
@[simp] theorem a5w : d9 "NoStep" "NoLayout" = false := by decide +kernel
@[simp] theorem a9X : d9 "NoStep" "Tight" = false := by decide +kernel
@[simp] theorem b0k : d9 "NoStep" "Loose" = false := by decide +kernel
@[simp] theorem a66 : d9 "NoStep" "NoLines" = false := by decide +kernel
@[simp] theorem a67 : d9 "NoStep" "TooMany" = false := by decide +kernel
@[simp] theorem b0B : d9 "NoStep" "NoEnd" = false := by decide +kernel
@[simp] theorem a9e : d9 "NoStep" "NoMold" = false := by decide +kernel
@[simp] theorem a74 : d9 "NoStep" "NoLine" = false := by decide +kernel
@[simp] theorem a7p : d9 "NoStep" "NoPaper" = false := by decide +kernel
@[simp] theorem a9z : d9 "NoStep" "NoText" = false := by decide +kernel
@[simp] theorem a9P : d9 "NoStep" "NoRow" = false := by decide +kernel
@[simp] theorem a76 : d9 "NoStep" "NoStep" = true := by decide +kernel
@[simp] theorem a3H : d9 "CastError" "NoHoles" = false := by decide +kernel
@[simp] theorem a4U : d9 "CastError" "NoCase" = false := by decide +kernel
@[simp] theorem a4P : d9 "CastError" "NoName" = false := by decide +kernel
@[simp] theorem a2I : d9 "CastError" "NoLayout" = false := by decide +kernel
@[simp] theorem a5r : d9 "CastError" "Tight" = false := by decide +kernel
@[simp] theorem a5l : d9 "CastError" "Loose" = false := by decide +kernel
@[simp] theorem a3F : d9 "CastError" "NoLines" = false := by decide +kernel
@[simp] theorem a3L : d9 "CastError" "TooMany" = false := by decide +kernel
@[simp] theorem a5m : d9 "CastError" "NoEnd" = false := by decide +kernel
@[simp] theorem a4e : d9 "CastError" "NoMold" = false := by decide +kernel
@[simp] theorem a5c : d9 "CastError" "NoLine" = false := by decide +kernel
@[simp] theorem a3K : d9 "CastError" "NoPaper" = false := by decide +kernel
@[simp] theorem a4o : d9 "CastError" "NoText" = false := by decide +kernel
@[simp] theorem a5x : d9 "CastError" "NoRow" = false := by decide +kernel
@[simp] theorem a4i : d9 "CastError" "NoStep" = false := by decide +kernel
end BV
namespace BV
open PySem L2

theorem a4N : kitB "NoneType" "int" = some false := by decide +kernel
@[simp] theorem b7Z  : G5 "int" (.none) = some (.val (.bool false)) := by
 show (if q7 (.none) = true then none else (kitB "NoneType" "int").map fun b => T.val (.bool b)) = _
 rw [a4N]
 rfl
theorem a4v : kitB "bool" "int" = some true := by decide +kernel
@[simp] theorem b72 {b : Bool} : G5 "int" (.bool b) = some (.val (.bool true)) := by
 show (if q7 (.bool b) = true then none else (kitB "bool" "int").map fun b => T.val (.bool b)) = _
 rw [a4v]
 rfl
theorem a3O : kitB "int" "int" = some true := by decide +kernel
@[simp] theorem b6X {i : Int} : G5 "int" (.int i) = some (.val (.bool true)) := by
 show (if q7 (.int i) = true then none else (kitB "int" "int").map fun b => T.val (.bool b)) = _
 rw [a3O]
 rfl
theorem a7w : kitB "str" "int" = some false := by decide +kernel
@[simp] theorem b8n {x : Str} : G5 "int" (.str x) = some (.val (.bool false)) := by
 show (if q7 (.str x) = true then none else (kitB "str" "int").map fun b => T.val (.bool b)) = _
 rw [a7w]
 rfl
theorem a4k : kitB "list" "int" = some false := by decide +kernel
@[simp] theorem b7M {xs : List D} : G5 "int" (.list xs) = some (.val (.bool false)) := by
 show (if q7 (.list xs) = true then none else (kitB "list" "int").map fun b => T.val (.bool b)) = _
 rw [a4k]
 rfl
theorem a3t : kitB "tuple" "int" = some false := by decide +kernel
@[simp] theorem b8p {xs : List D} : G5 "int" (.tuple xs) = some (.val (.bool false)) := by
 show (if q7 (.tuple xs) = true then none else (kitB "tuple" "int").map fun b => T.val (.bool b)) = _
 rw [a3t]
 rfl
theorem a2u : kitB "NoneType" "bool" = some false := by decide +kernel
@[simp] theorem b5Z  : G5 "bool" (.none) = some (.val (.bool false)) := by
 show (if q7 (.none) = true then none else (kitB "NoneType" "bool").map fun b => T.val (.bool b)) = _
 rw [a2u]
 rfl
theorem a2S : kitB "bool" "bool" = some true := by decide +kernel
@[simp] theorem b7J {b : Bool} : G5 "bool" (.bool b) = some (.val (.bool true)) := by
 show (if q7 (.bool b) = true then none else (kitB "bool" "bool").map fun b => T.val (.bool b)) = _
 rw [a2S]
 rfl
theorem a2t : kitB "int" "bool" = some false := by decide +kernel
@[simp] theorem b4Z {i : Int} : G5 "bool" (.int i) = some (.val (.bool false)) := by
 show (if q7 (.int i) = true then none else (kitB "int" "bool").map fun b => T.val (.bool b)) = _
 rw [a2t]
 rfl
theorem a4R : kitB "str" "bool" = some false := by decide +kernel
@[simp] theorem b6R {x : Str} : G5 "bool" (.str x) = some (.val (.bool false)) := by
 show (if q7 (.str x) = true then none else (kitB "str" "bool").map fun b => T.val (.bool b)) = _
 rw [a4R]
 rfl
theorem a28 : kitB "list" "bool" = some false := by decide +kernel
@[simp] theorem b64 {xs : List D} : G5 "bool" (.list xs) = some (.val (.bool false)) := by
 show (if q7 (.list xs) = true then none else (kitB "list" "bool").map fun b => T.val (.bool b)) = _
 rw [a28]
 rfl
theorem a1v : kitB "tuple" "bool" = some false := by decide +kernel
@[simp] theorem b65 {xs : List D} : G5 "bool" (.tuple xs) = some (.val (.bool false)) := by
 show (if q7 (.tuple xs) = true then none else (kitB "tuple" "bool").map fun b => T.val (.bool b)) = _
 rw [a1v]
 rfl
theorem a3P : kitB "NoneType" "str" = some false := by decide +kernel
@[simp] theorem b8i  : G5 "str" (.none) = some (.val (.bool false)) := by
 show (if q7 (.none) = true then none else (kitB "NoneType" "str").map fun b => T.val (.bool b)) = _
 rw [a3P]
 rfl
theorem a3Q : kitB "bool" "str" = some false := by decide +kernel
@[simp] theorem b8j {b : Bool} : G5 "str" (.bool b) = some (.val (.bool false)) := by
 show (if q7 (.bool b) = true then none else (kitB "bool" "str").map fun b => T.val (.bool b)) = _
 rw [a3Q]
 rfl
theorem a7i : kitB "int" "str" = some false := by decide +kernel
@[simp] theorem b6t {i : Int} : G5 "str" (.int i) = some (.val (.bool false)) := by
 show (if q7 (.int i) = true then none else (kitB "int" "str").map fun b => T.val (.bool b)) = _
 rw [a7i]
 rfl
theorem a6V : kitB "str" "str" = some true := by decide +kernel
@[simp] theorem b8o {x : Str} : G5 "str" (.str x) = some (.val (.bool true)) := by
 show (if q7 (.str x) = true then none else (kitB "str" "str").map fun b => T.val (.bool b)) = _
 rw [a6V]
 rfl
theorem a4S : kitB "list" "str" = some false := by decide +kernel
@[simp] theorem b8c {xs : List D} : G5 "str" (.list xs) = some (.val (.bool false)) := by
 show (if q7 (.list xs) = true then none else (kitB "list" "str").map fun b => T.val (.bool b)) = _
 rw [a4S]
 rfl
theorem a3d : kitB "tuple" "str" = some false := by decide +kernel
@[simp] theorem b8d {xs : List D} : G5 "str" (.tuple xs) = some (.val (.bool false)) := by
 show (if q7 (.tuple xs) = true then none else (kitB "tuple" "str").map fun b => T.val (.bool b)) = _
 rw [a3d]
 rfl
theorem a1Q : kitB "NoneType" "tuple" = some false := by decide +kernel
@[simp] theorem b5r  : G5 "tuple" (.none) = some (.val (.bool false)) := by
 show (if q7 (.none) = true then none else (kitB "NoneType" "tuple").map fun b => T.val (.bool b)) = _
 rw [a1Q]
 rfl
theorem a1J : kitB "bool" "tuple" = some false := by decide +kernel
@[simp] theorem b5p {b : Bool} : G5 "tuple" (.bool b) = some (.val (.bool false)) := by
 show (if q7 (.bool b) = true then none else (kitB "bool" "tuple").map fun b => T.val (.bool b)) = _
 rw [a1J]
 rfl
theorem a3e : kitB "int" "tuple" = some false := by decide +kernel
@[simp] theorem b4e {i : Int} : G5 "tuple" (.int i) = some (.val (.bool false)) := by
 show (if q7 (.int i) = true then none else (kitB "int" "tuple").map fun b => T.val (.bool b)) = _
 rw [a3e]
 rfl
theorem a2E : kitB "str" "tuple" = some false := by decide +kernel
@[simp] theorem b5w {x : Str} : G5 "tuple" (.str x) = some (.val (.bool false)) := by
 show (if q7 (.str x) = true then none else (kitB "str" "tuple").map fun b => T.val (.bool b)) = _
 rw [a2E]
 rfl
theorem a1x : kitB "list" "tuple" = some false := by decide +kernel
@[simp] theorem b5K {xs : List D} : G5 "tuple" (.list xs) = some (.val (.bool false)) := by
 show (if q7 (.list xs) = true then none else (kitB "list" "tuple").map fun b => T.val (.bool b)) = _
 rw [a1x]
 rfl
theorem a0E : kitB "tuple" "tuple" = some true := by decide +kernel
@[simp] theorem a0c {xs : List D} : G5 "tuple" (.tuple xs) = some (.val (.bool true)) := by
 show (if q7 (.tuple xs) = true then none else (kitB "tuple" "tuple").map fun b => T.val (.bool b)) = _
 rw [a0E]
 rfl
theorem a25 : kitB "NoneType" "list" = some false := by decide +kernel
@[simp] theorem b5P  : G5 "list" (.none) = some (.val (.bool false)) := by
 show (if q7 (.none) = true then none else (kitB "NoneType" "list").map fun b => T.val (.bool b)) = _
 rw [a25]
 rfl
theorem a2Z : kitB "bool" "list" = some false := by decide +kernel
@[simp] theorem b6V {b : Bool} : G5 "list" (.bool b) = some (.val (.bool false)) := by
 show (if q7 (.bool b) = true then none else (kitB "bool" "list").map fun b => T.val (.bool b)) = _
 rw [a2Z]
 rfl
theorem a4c : kitB "int" "list" = some false := by decide +kernel
@[simp] theorem b49 {i : Int} : G5 "list" (.int i) = some (.val (.bool false)) := by
 show (if q7 (.int i) = true then none else (kitB "int" "list").map fun b => T.val (.bool b)) = _
 rw [a4c]
 rfl
theorem a4s : kitB "str" "list" = some false := by decide +kernel
@[simp] theorem b6u {x : Str} : G5 "list" (.str x) = some (.val (.bool false)) := by
 show (if q7 (.str x) = true then none else (kitB "str" "list").map fun b => T.val (.bool b)) = _
 rw [a4s]
 rfl
theorem a2P : kitB "list" "list" = some true := by decide +kernel
@[simp] theorem b7m {xs : List D} : G5 "list" (.list xs) = some (.val (.bool true)) := by
 show (if q7 (.list xs) = true then none else (kitB "list" "list").map fun b => T.val (.bool b)) = _
 rw [a2P]
 rfl
theorem a1N : kitB "tuple" "list" = some false := by decide +kernel
@[simp] theorem b7C {xs : List D} : G5 "list" (.tuple xs) = some (.val (.bool false)) := by
 show (if q7 (.tuple xs) = true then none else (kitB "tuple" "list").map fun b => T.val (.bool b)) = _
 rw [a1N]
 rfl

@[simp] theorem c3z : N3 .none = true := rfl
@[simp] theorem c2Y {b : Bool} : N3 (.bool b) = true := rfl
@[simp] theorem c3Y {b : Int} : N3 (.int b) = true := rfl
@[simp] theorem c29 {b : Str} : N3 (.str b) = true := rfl
@[simp] theorem c3V {a b : Bool} : gEq false (.bool a) (.bool b) = some (.val (.bool (a == b))) := rfl
@[simp] theorem c3b {a b : Bool} : gEq true (.bool a) (.bool b) = some (.val (.bool (!(a == b)))) := rfl
theorem c1a {neg : Bool} {a b : D} (h1 : N3 a = true) (h2 : N3 b = true) : gEq neg a b = some (.val (.bool (if neg then !PyData.eqv a b else PyData.eqv a b))) := by
 unfold gEq
 rw [h1, h2]
 rfl
@[simp] theorem b41 {a b : Str} : gEq false (.str a) (.str b) = some (.val (.bool (decide (a = b)))) := by
 show some (T.val (.bool (PyData.eqv (.str a) (.str b)))) = _
 simp [PyData.eqv]
 try rfl
@[simp] theorem b5G {a b : Str} : gEq true (.str a) (.str b) = some (.val (.bool (decide (a ≠ b)))) := by
 show some (T.val (.bool (!PyData.eqv (.str a) (.str b)))) = _
 simp [PyData.eqv]
 try rfl
@[simp] theorem c4U : PyData.eqv .none .none = true := rfl
@[simp] theorem c42 {a b : Int} : PyData.eqv (.int a) (.int b) = decide (a = b) := by
 simp [PyData.eqv]
 try rfl
@[simp] theorem c4E {a b : Str} : PyData.eqv (.str a) (.str b) = decide (a = b) := by
 simp [PyData.eqv]
 try rfl
@[simp] theorem c4k {a b : Bool} : PyData.eqv (.bool a) (.bool b) = (a == b) := rfl
@[simp] theorem c4s {a b : List D} : PyData.eqv (.tuple a) (.tuple b) = PyData.eqvAll a b := rfl
@[simp] theorem b8W {a b : List D} : PyData.eqv (.list a) (.list b) = PyData.eqvAll a b := rfl
@[simp] theorem b7X : PyData.eqvAll [] [] = true := rfl
@[simp] theorem a1j {x y : D} {a b : List D} : PyData.eqvAll (x :: a) (y :: b) = (PyData.eqv x y && PyData.eqvAll a b) := rfl
@[simp] theorem b8L {y : D} {b : List D} : PyData.eqvAll [] (y :: b) = false := rfl
@[simp] theorem b9E {y : D} {b : List D} : PyData.eqvAll (y :: b) [] = false := rfl
theorem b2h {α : Type} (p : α → Bool) (xs : List α) : G7 (xs.map fun d => PyData.bool (p d)) = some (xs.map p) := by
 have e : (xs.map fun d => PyData.bool (p d)) = (xs.map p).map PyData.bool := by rw [List.map_map]; rfl
 rw [e, a0V]
@[simp] theorem b2j {α : Type} {p : α → Bool} {xs : List α} : b5x [.list (xs.map fun d => PyData.bool (p d))] = some (.val (.bool (xs.all p))) := by
 show (G7 _).map _ = _
 rw [b2h]
 simp [List.all_map]
@[simp] theorem c3f {q : Bool} {ρ : En} {S : Sto} : b3K q ρ S = .ok (.ownd q []) S := rfl
@[simp] theorem c4g {i : Int} {d : D} {r : List (D × D)} : unD ((.int i, d) :: r) = (false, (.int i, d) :: r) := rfl
@[simp] theorem c4q {i : Str} {d : D} {r : List (D × D)} : unD ((.str i, d) :: r) = (false, (.str i, d) :: r) := rfl
@[simp] theorem c1E : unD [] = (false, []) := rfl
@[simp] theorem c0y {q : Bool} {kvs : List (D × D)} {S : Sto} {k : D → Sto → R T} : R.d (.ok (.ownd q kvs) S) k = k (.dict (mkD q kvs)) S := rfl
@[simp] theorem b7P {q : Bool} {kvs : List (D × D)} : asD (.ownd q kvs) = some (.dict (mkD q kvs)) := rfl
@[simp] theorem b7N {q : Bool} {kvs : List (D × D)} : asA (.ownd q kvs) = .val (.dict (mkD q kvs)) := rfl
@[simp] theorem c38 {kvs : List (D × D)} : mkD false kvs = kvs := rfl
@[simp] theorem c4K {i : Int} : keyOf (.int i) = some (.inl (.inl i)) := rfl
@[simp] theorem c34 {x : Str} : keyOf (.str x) = some (.inl (.inr x)) := rfl
def c2V (o : Option T) (X : R T) (S : Sto) : R T := match o with
 | some (.val (.bool true)) => X
 | some (.val (.bool false)) => .ok (.val (.bool false)) S
 | _ => .bad
@[simp] theorem c3K {b : Bool} {X : R T} {S : Sto} : c2V (some (.val (.bool b))) X S = if b = true then X else .ok (.val (.bool false)) S := by cases b <;> rfl
@[simp] theorem c1k {g g' : D → D → Option T} {f1 f2 f3 : SE} {ρ : En} {S : Sto} : Z9 g g' f1 f2 f3 ρ S = R.d (f1 ρ S) fun x S1 => R.d (f2 ρ S1) fun y S2 => c2V (g x y) (R.d (f3 ρ S2) fun z S3 => (match g' y z with | some t => .ok t S3 | none => .bad)) S2 := rfl
@[simp] theorem c3U {p : Prop} [Decidable p] {c : Bool} {S : Sto} : (if p then R.ok (T.val (.bool c)) S else R.ok (T.val (.bool false)) S) = R.ok (T.val (.bool (decide p && c))) S := by
 by_cases h : p
 ·rw [if_pos h, decide_eq_true h, Bool.true_and]
 ·rw [if_neg h, decide_eq_false h, Bool.false_and]
@[simp] theorem c1X : q7 .none = false := rfl
@[simp] theorem c2R {b : Bool} : q7 (.bool b) = false := rfl
@[simp] theorem c2i {b : Int} : q7 (.int b) = false := rfl
@[simp] theorem c1s {b : Str} : q7 (.str b) = false := rfl
@[simp] theorem c1U {b : List D} : q7 (.list b) = false := rfl
@[simp] theorem c2N {b : List D} : q7 (.tuple b) = false := rfl
@[simp] theorem c3y : Q7 .none = true := rfl
@[simp] theorem c3t {b : Bool} : Q7 (.bool b) = true := rfl
@[simp] theorem c3c {b : Int} : Q7 (.int b) = true := rfl
@[simp] theorem c32 {b : Str} : Q7 (.str b) = true := rfl
theorem c0g {neg : Bool} {a : D} {ds : List D} (h1 : N3 a = true) (h2 : N3 (.list ds) = true) : gIn neg a (.list ds) = some (.val (.bool (if neg then !(ds.any fun d => PyData.eqv d a) else ds.any fun d => PyData.eqv d a))) := by
 have h : ((Q7 a && ds.all Q7) || (N3 a && N3 (.list ds))) = true := by rw [h1, h2]; simp
 cases a <;> first | (unfold gIn; simp only [h, if_true]; done) | cases h1
theorem b1u {xs ys : List D} (h : xs.length + ys.length ≤ sizeLine) : w9 (.list xs) (.list ys) = some (.own (xs ++ ys)) := by
 show (if xs.length + ys.length ≤ sizeLine then _ else _) = _
 rw [if_pos h]
def c2Z (o : Option Bool) (d : D) (X : R T) (S : Sto) : R T := match o with
 | some true => X
 | some false => .ok (.val d) S
 | none => .bad
@[simp] theorem c3v {b : Bool} {d : D} {X : R T} {S : Sto} : c2Z (some b) d X S = if b = true then X else .ok (.val d) S := by cases b <;> rfl
@[simp high] theorem c11 {f1 f2 : SE} {ρ : En} {S : Sto} : b1r f1 f2 ρ S = R.d (f1 ρ S) fun d S1 => c2Z (a30 d) d (f2 ρ S1) S1 := rfl
@[simp] theorem c2T {b c : Bool} {S : Sto} : (if b = true then R.ok (T.val (.bool c)) S else R.ok (T.val (.bool b)) S) = R.ok (T.val (.bool (b && c))) S := by cases b <;> rfl
@[simp] theorem c3I {b c : Bool} {S : Sto} : (if b = true then R.ok (T.val (.bool b)) S else R.ok (T.val (.bool c)) S) = R.ok (T.val (.bool (b || c))) S := by cases b <;> rfl
@[simp] theorem c2r {p : Prop} [Decidable p] {c : Bool} {S : Sto} : (if p then R.ok (T.val (.bool c)) S else R.ok (T.val (.bool (decide p))) S) = R.ok (T.val (.bool (decide p && c))) S := by
 by_cases h : p <;> simp [h]
@[simp] theorem c3i {p : Prop} [Decidable p] {c : Bool} {S : Sto} : (if p then R.ok (T.val (.bool (decide p))) S else R.ok (T.val (.bool c)) S) = R.ok (T.val (.bool (decide p || c))) S := by
 by_cases h : p <;> simp [h]
@[simp] theorem c3e {n : Nat} {bs : BTs} {ds : List D} {ρ : En} : a0e n bs (.tuple ds) ρ = if ds.length = n then bs ds ρ else none := rfl
@[simp] theorem c1d {n : Nat} {bs : BTs} {ds : List D} {ρ : En} : a0e n bs (.list ds) ρ = if ds.length = n then bs ds ρ else none := rfl
@[simp] theorem c1l {b : BT1} {bs : BTs} {d : D} {r : List D} {ρ : En} : m3 b bs (d :: r) ρ = (b d ρ).bind (bs r) := rfl
@[simp] theorem c3w {ρ : En} : a0l [] ρ = some ρ := rfl
@[simp] theorem c3O {b : BT1} {f : SE} {ρ : En} {S : Sto} : a4G b f ρ S = sE f (fun t ρ S => match asD t with
 | some d => (match b d ρ with | some ρ' => .nx ρ' S | none => .bad)
 | none => .bad) ρ S := rfl
@[simp] theorem c43 {α : Type} {x : α} {xs : List α} : atI (x :: xs) 0 = some x := C7 (i := 0) rfl
@[simp] theorem c49 {α : Type} {x y : α} {xs : List α} : atI (x :: y :: xs) 1 = some y := C7 (i := 1) rfl
@[simp] theorem c44 {α : Type} {x y z : α} {xs : List α} : atI (x :: y :: z :: xs) 2 = some z := C7 (i := 2) rfl
@[simp] theorem c47 {α : Type} {x y z w : α} {xs : List α} : atI (x :: y :: z :: w :: xs) 3 = some w := C7 (i := 3) rfl
@[simp] theorem c5k {α : Type} {x y z w u : α} {xs : List α} : atI (x :: y :: z :: w :: u :: xs) 4 = some u := C7 (i := 4) rfl
@[simp] theorem c0S {p q : Prop} [Decidable p] [Decidable q] {c : Bool} {S : Sto} : (if p ∧ q then R.ok (T.val (.bool c)) S else R.ok (T.val (.bool (decide p && decide q))) S) = R.ok (T.val (.bool (decide p && (decide q && c)))) S := by
 by_cases h : p <;> by_cases h2 : q <;> simp [h, h2]
@[simp] theorem c2E {p q : Prop} [Decidable p] [Decidable q] {c : Bool} {S : Sto} : (if p ∨ q then R.ok (T.val (.bool (decide p || decide q))) S else R.ok (T.val (.bool c)) S) = R.ok (T.val (.bool (decide p || (decide q || c)))) S := by
 by_cases h : p <;> by_cases h2 : q <;> simp [h, h2]
theorem b0n {b : SB} {g1 g2 : SS} {ρ : En} {S S1 : Sto} {r : Fl} (h : b ρ S = .ok true S1) (h1 : g1 ρ S1 = r) : sIf b g1 g2 ρ S = r := by rw [c26, h]; exact h1
theorem Z6 {b : SB} {g1 g2 : SS} {ρ : En} {S S1 : Sto} {r : Fl} (h : b ρ S = .ok false S1) (h1 : g2 ρ S1 = r) : sIf b g1 g2 ρ S = r := by rw [c26, h]; exact h1
@[simp] theorem c2z {x : Str} {ρ : En} {S : Sto} : a2e x ρ S = .ex ⟨x, none⟩ ρ S := rfl
end BV
namespace BV
open PySem L2

theorem a0n {α : Type} (u : α → D) (h1 : ∀ a, A0 (u a) = true) (h2 : ∀ a, (u a).depth ≤ 60) (xs : List α) : N3 (.list (xs.map u)) = true ∧ N3 (.tuple (xs.map u)) = true := by
 have a : C4 (xs.map u) = true := a9s fun x hx => by obtain ⟨y, _, rfl⟩ := List.mem_map.mp hx; exact h1 y
 have b : PyData.depthAll (xs.map u) ≤ 60 := V5 fun x hx => by obtain ⟨y, _, rfl⟩ := List.mem_map.mp hx; exact h2 y
 constructor
 ·unfold N3
  rw [show A0 (.list (xs.map u)) = true from a, Bool.true_and]
  refine decide_eq_true ?_
  simp only [PyData.depth]
  omega
 ·unfold N3
  rw [show A0 (.tuple (xs.map u)) = true from a, Bool.true_and]
  refine decide_eq_true ?_
  simp only [PyData.depth]
  omega
@[simp] theorem b4T : N3 (.list []) = true := rfl
@[simp] theorem b9c : N3 (.tuple []) = true := rfl
@[simp] theorem c36 : gEq false (.list []) (.list []) = some (.val (.bool true)) := rfl
@[simp] theorem c4h : gEq true (.list []) (.list []) = some (.val (.bool false)) := rfl
end BV
namespace BV
open PySem L2
def P1 : SS := a9V 1 (fun a b => a + b) (b7 3) (cC (.int 1))
def T4 : SS := k7 (u8 1 (d5 E2 (t9 (d2 (cC (.int 0)) l8)) (d5 w9 (cC (.int 30)) (cC (.int 2)))))
  (k7 (a1t (a07 (l7 0)) (a0e 2 (m3 (f8 2) (m3 (f8 3) a0l))) P1)
  (a0S 1))
def C6 : Fn := fnL 4 T4
def a23 : SS := k7 (u8 6 (cB1 a4I (i4 (cC (.int 0)) (i4 (d5 gSub (cC (.int 0)) (b7 3)) w3))))
  (k7 (u8 7 (d5 gSub (d5 E2 (b7 0) (b7 4)) (b7 6)))
  (k7 (u8 8 (d5 gSub (d5 gIx (b7 1) (b7 2)) (b7 5)))
  (k7 (sIf (cB (d5 gLt (b7 7) (cC (.int 0)))) (G9 (cC .none)) r7)
  (k7 (sIf (cB (d5 gGt (b7 8) (b7 7))) (G9 (X0 (d2 (d5 gSub (b7 7) (b7 8)) (d2 (d5 w9 (b7 6) (b7 5)) l8)))) r7)
  (G9 (X0 (d2 (cB1 a3n (i4 (d5 gSub (b7 7) (b7 8)) (i4 (d5 gIx (b7 1) (d5 w9 (b7 2) (cC (.int 1)))) w3))) (d2 (d5 w9 (b7 6) (b7 5)) l8))))))))
def J3 : Fn := fnL 9 a23
def U0 : SS := k7 (u8 4 (d5 w9 (d5 w9 (cB1 a4I (i4 (cC (.int 0)) (i4 (d5 gSub (cC (.int 0)) (b7 3)) w3))) (d5 gIx (b7 1) (b7 2))) (d5 gIx (b7 1) (d5 w9 (b7 2) (cC (.int 1))))))
  (G9 (d5 a4z (d5 gSub (d5 w9 (b7 4) (b7 0)) (cC (.int 1))) (b7 0)))
def B9 : Fn := fnL 5 U0
def V1 : SS := k7 (u8 12 (p6 J3 (d2 (l7 2) (d2 (l7 1) (d2 (l7 5) (d2 (l7 9) (d2 (l7 10) (d2 (l7 11) l8))))))))
  (sIf (cB (cUn a3M (b7 12))) (k7 (u8 13 (X0 (d2 (d5 w9 (b7 8) (b7 10)) (d2 (d5 gIx (b7 12) (cC (.int 0))) l8))))
  (k7 (u8 14 (d5 w9 (d5 gIx (d5 b1k (d5 gIx (b7 4) (cUn a1M (cC (.int 1)))) (b7 7)) (cC (.int 0))) (d5 gIx (b7 12) (cC (.int 1)))))
  (sIf (bOr (cB (d5 (gIn true) (b7 13) (b7 6))) (cB (d5 gLt (b7 14) (d5 gIx (d5 b1k (b7 6) (b7 13)) (cC (.int 0)))))) (b9r 6 (b7 13) (X0 (d2 (l7 14) (d2 (l7 7) (d2 (l7 10) (d2 (l7 11) l8)))))) r7))) r7)
def V8 : SS := a1t (a1H N6 (i4 (d5 w9 (cB1 a3n (i4 (d5 gIx (b7 1) (b7 5)) (i4 (cB1 a4I (i4 (cC (.int 0)) (i4 (b7 9) w3))) w3))) (cC (.int 1))) w3)) (f8 11) V1
def W3 : SS := k7 (a4G (a0e 2 (m3 (f8 8) (m3 (f8 9) a0l))) (l7 7))
  (a1t (a1H N6 (i4 (d5 w9 (cB1 a3n (i4 (d5 gSub (b7 3) (b7 8)) (i4 (p6 B9 (d2 (l7 2) (d2 (l7 1) (d2 (l7 5) (d2 (l7 9) l8))))) w3))) (cC (.int 1))) w3)) (f8 10) V8)
def W9 : SS := k7 (u8 6 (b3K true))
  (k7 (a1t (a07 (cB1 a0s (i4 (d5 gIx (b7 4) (cUn a1M (cC (.int 1)))) w3))) (f8 7) W3)
  (sFz 6 (sLM 4 w5 (d2 (l7 6) l8) W6)))
def a3m : SS := k7 (a4G (a0e 2 (m3 (f8 2) (m3 (f8 3) a0l))) (l7 0))
  (k7 (u8 4 (t9 (d2 (a3g (X0 (d2 (cC (.int 0)) (d2 (cC (.int 0)) l8))) (X0 (d2 (cC (.int 0)) (d2 (cC .none) (d2 (cC (.int 0)) (d2 (cC (.int 0)) l8)))))) l8)))
  (k7 (a1t (a1H a3p (i4 (cC (.int 1)) (i4 (d5 w9 (cC (.int 30)) (cC (.int 1))) w3))) (f8 5) W9)
  (a0S 4)))
def F5 : Fn := fnL 15 a3m
def D6 : SS := k7 (a4G (a0e 4 (m3 (f8 7) (m3 (f8 8) (m3 (f8 9) (m3 (f8 10) a0l))))) (d5 b1k (d5 gIx (b7 2) (b7 6)) (b7 4)))
  (k7 (sLM 5 w5 (d2 (X0 (d2 (l7 9) (d2 (l7 10) l8))) l8) W6)
  (u8 4 (l7 8)))
def Q4 : SS := k7 (u8 2 (p6 F5 (d2 (l7 0) (d2 (l7 1) l8))))
  (k7 (u8 3 (cLc (a5N (d5 gIx (b7 2) (cUn a1M (cC (.int 1))))) (f8 4) (cB (d5 gGe (d5 gIx (b7 4) (cC (.int 1))) (cC (.int 0)))) (X0 (d2 (d5 gIx (d5 b1k (d5 gIx (b7 2) (cUn a1M (cC (.int 1)))) (b7 4)) (cC (.int 0))) (d2 (l7 4) l8))) [4]))
  (k7 (sIf (cB (d5 (gEq false) (b7 3) (t9 l8))) (a2e "NoLayout") r7)
  (k7 (u8 4 (d5 gIx (cB1 b0g (i4 (b7 3) w3)) (cC (.int 1))))
  (k7 (u8 5 (t9 l8))
  (k7 (a1t (a1H b2H (i4 (cC (.int 30)) (i4 (cUn a1M (cC (.int 1))) (i4 (cUn a1M (cC (.int 1))) w3)))) (f8 6) D6)
  (G9 (cUn c0C (b7 5))))))))
def v7 : Fn := fnL 11 Q4
def E0 : SS := k7 (a4G (a0e 2 (m3 (f8 6) (m3 (f8 7) a0l))) (d5 gIx (b7 2) (b7 5)))
  (k7 (u8 8 (cLc (a07 (b7 1)) (a0e 2 (m3 (f8 10) (m3 (f8 11) a0l))) (cB (d5 (gEq false) (b7 11) (b7 5))) (l7 10) [10, 11]))
  (k7 (a65 3 (d5 gSub (b7 5) (cC (.int 1))) B6 (i4 (cLc (a07 (cSl (b7 8) a3a (a21 (b7 7)))) (f8 10) a2o (X0 (d2 (l7 10) (d2 (cC (.int 1)) l8))) [10]) w3))
  (k7 (a65 3 (b7 5) B6 (i4 (cLc (a07 (b7 4)) (f8 10) a2o (X0 (d2 (l7 10) (d2 (cUn a1M (cC (.int 1))) l8))) [10]) w3))
  (k7 (u8 9 (d5 gSub (d5 E2 (b7 0) (b7 6)) (cB1 X3 (i4 (b7 4) w3))))
  (k7 (a65 3 (b7 5) B6 (i4 (cLc (a07 (cSl (b7 8) (a21 (b7 7)) (a21 (d5 w9 (b7 7) (b7 9))))) (f8 10) a2o (X0 (d2 (l7 10) (d2 (cC (.int 0)) l8))) [10]) w3))
  (u8 4 (cSl (b7 8) (a21 (d5 w9 (b7 7) (b7 9))) a3a)))))))
def M3 : SS := k7 (u8 3 (b3w (b9B (a07 (b7 2)) (a0e 2 (m3 (f8 6) (m3 (f8 7) a0l))) a2o (t9 l8) [6, 7])))
  (k7 (u8 4 (t9 l8))
  (k7 (a1t (a1H a3p (i4 (cC (.int 1)) (i4 (d5 w9 (cC (.int 30)) (cC (.int 1))) w3))) (f8 5) E0)
  (sFz 3 (a0S 3))))
def v8 : Fn := fnL 12 M3
def E6 : SS := k7 (u8 5 (cSl (b7 1) (a21 (d5 E2 (b7 4) (b7 0))) (a21 (d5 E2 (d5 w9 (b7 4) (cC (.int 1))) (b7 0)))))
  (sLM 3 w5 (d2 (d5 w9 (b7 5) (d5 E2 (t9 (d2 (cC .none) l8)) (d5 gSub (b7 0) (cB1 X3 (i4 (b7 5) w3))))) l8) W6)
def G1 : SS := k7 (u8 3 (t9 l8))
  (k7 (a1t (a1H N6 (i4 (b7 2) w3)) (f8 4) E6)
  (a0S 3))
def q9 : Fn := fnL 6 G1
def v9 : SS := k7 (u8 4 (cB1 a4K (i4 (b7 3) w3)))
  (k7 (sIf (b7T (a8e (cT (b7 2))) (cB (d5 (gIn false) (cC .none) (b7 4)))) (k7 (b9r 4 (b4P "list" a24 (b7 4) (i4 (cC .none) w3)) (X0 (d2 (cC (.str " ")) (d2 (cC (.int 0)) l8))))
  (u8 2 (cC (.bool true)))) r7)
  (sLM 1 w5 (d2 (cB1 a1p (i4 (b7 4) w3)) l8) W6))
def O7 : SS := k7 (u8 1 (t9 l8))
  (k7 (u8 2 (cC (.bool false)))
  (k7 (a1t (a07 (l7 0)) (f8 3) v9)
  (G9 (cB1 a1p (i4 (b7 1) w3)))))
def w4 : Fn := fnL 5 O7
def P9 : SS := k7 (u8 9 (d5 gIx (d5 gIx (b7 4) (b7 8)) (cC (.int 0))))
  (k7 (b5O 6 B6 (i4 (d5 E2 (t9 (d2 (l7 8) l8)) (b7 9)) w3) W6)
  (b5O 7 B6 (i4 (p6 q9 (d2 (l7 2) (d2 (d5 gIx (b7 5) (b7 8)) (d2 (l7 9) l8)))) w3) W6))
def O6 : SS := k7 (a4G (a0e 2 (m3 (f8 2) (m3 (f8 3) a0l))) (l7 0))
  (k7 (sIf (cB (d5 gGe (cB1 X3 (i4 (b7 1) w3)) (d5 E2 (b7 2) (b7 3)))) (a2e "NoLayout") r7)
  (k7 (u8 4 (p6 v7 (d2 (l7 0) (d2 (p6 C6 (d2 (l7 1) l8)) l8))))
  (sFz 4 (k7 (u8 5 (p6 v8 (d2 (l7 2) (d2 (l7 1) (d2 (l7 4) l8)))))
  (k7 (u8 6 (t9 l8))
  (k7 (u8 7 (t9 l8))
  (k7 (a1t (a1H a3p (i4 (cC (.int 1)) (i4 (d5 w9 (cC (.int 30)) (cC (.int 1))) w3))) (f8 8) P9)
  (k7 (u8 10 (d5 gSub (b7 3) (cB1 X3 (i4 (b7 7) w3))))
  (k7 (b5O 7 B6 (i4 (cLc (a1H N6 (i4 (b7 10) w3)) (f8 11) a2o (d5 E2 (t9 (d2 (cC .none) l8)) (b7 2)) [11]) w3) W6)
  (G9 (X0 (d2 (cB1 a1p (i4 (d5 w9 (b7 6) (d5 E2 (t9 (d2 (cC (.int 1)) l8)) (b7 10))) w3)) (d2 (b6T (p6 w4 (d2 (l7 7) l8))) l8)))))))))))))
def p9 : Fn := fnL 12 O6
end BV
namespace BV
open PySem L2

end BV
namespace BV
open PySem L2

def B5 : SS := k7 (u8 1 (cC (.str "abcdefghijklmnopqrstuvwxyz")))
  (k7 (sIf (cB (d5 gLt (b7 0) (cC (.int 26)))) (G9 (d5 gIx (b7 1) (b7 0))) r7)
  (k7 (sIf (cB (d5 gLt (b7 0) (cC (.int 702)))) (G9 (d5 w9 (d5 gIx (b7 1) (d5 a4z (d5 gSub (b7 0) (cC (.int 26))) (cC (.int 26)))) (d5 gIx (b7 1) (d5 a0g (b7 0) (cC (.int 26)))))) r7)
  (k7 (u8 2 (d5 gIx (b7 1) (d5 a0g (d5 a4z (b7 0) (cC (.int 676))) (cC (.int 26)))))
  (k7 (u8 2 (d5 w9 (b7 2) (d5 gIx (b7 1) (d5 a0g (d5 a4z (b7 0) (cC (.int 26))) (cC (.int 26))))))
  (G9 (d5 w9 (b7 2) (d5 gIx (b7 1) (d5 a0g (b7 0) (cC (.int 26))))))))))
def n0 : Fn := fnL 3 B5
def I8 : SS := sLM 5 w5 (d2 (X0 (d2 (p6 n0 (d2 (d5 a0g (d5 w9 (b7 4) (d5 E2 (cC (.int 97)) (b7 6))) (cC (.int 17576))) l8)) (d2 (d5 w9 (b7 3) (p6 j5 (d2 (l7 0) (d2 (l7 2) l8)))) l8))) l8) W6
def K6 : SS := k7 (u8 1 (p6 j5 (d2 (l7 0) (d2 (d5 gIx (t9 (d2 (cC (.int 11)) (d2 (cC (.int 11)) (d2 (cC (.int 11)) (d2 (cC (.int 61)) l8))))) (p6 j5 (d2 (l7 0) (d2 (cC (.int 4)) l8)))) l8))))
  (k7 (u8 2 (d5 gIx (t9 (d2 (cC (.int 2)) (d2 (cC (.int 3)) (d2 (cC (.int 4)) (d2 (cC (.int 6)) (d2 (cC (.int 2)) (d2 (cC (.int 3)) (d2 (cC (.int 4)) (d2 (cC (.int 30)) l8))))))))) (p6 j5 (d2 (l7 0) (d2 (cC (.int 8)) l8)))))
  (k7 (u8 3 (d5 w9 (cC (.int 1)) (p6 j5 (d2 (l7 0) (d2 (d5 gSub (cC (.int 31)) (b7 2)) l8)))))
  (k7 (u8 4 (p6 j5 (d2 (l7 0) (d2 (cC (.int 17000)) l8))))
  (k7 (u8 5 (t9 l8))
  (k7 (a1t (a1H N6 (i4 (b7 1) w3)) (f8 6) I8)
  (a0S 5))))))
def v6 : Fn := fnL 7 K6
def F3 (fR : Fn) : SS := k7 (u8 12 (d5 gSub (d5 gIx (b7 1) (b7 2)) (b7 11)))
  (sIf (cB (d5 gGe (b7 10) (cC (.int 0)))) (k7 (u8 13 (p6 fR (d2 (l7 0) (d2 (l7 1) (d2 (d5 w9 (b7 2) (cC (.int 1))) (d2 (d5 gSub (b7 3) (b7 9)) (d2 (cB1 a3n (i4 (d5 gSub (b7 10) (b7 12)) (i4 (d5 gIx (b7 1) (d5 w9 (b7 2) (cC (.int 1)))) w3))) (d2 (l7 5) l8))))))))
  (sIf (b7T (cB (cUn a3M (b7 13))) (bOr (cB (cUn b71 (b7 7))) (cB (d5 gLt (d5 w9 (d5 w9 (b7 8) (b7 11)) (b7 13)) (b7 7))))) (u8 7 (d5 w9 (d5 w9 (b7 8) (b7 11)) (b7 13))) r7)) r7)
def o0 (fR : Fn) : SS := k7 (u8 10 (d5 gSub (d5 E2 (b7 0) (b7 9)) (b7 8)))
  (k7 (a1t (a1H N6 (i4 (d5 w9 (cB1 a3n (i4 (d5 gIx (b7 1) (b7 2)) (i4 (cB1 a4I (i4 (cC (.int 0)) (i4 (b7 4) w3))) w3))) (cC (.int 1))) w3)) (f8 11) ((F3 fR)))
  (sIf (cB (d5 gGt (b7 10) (d5 w9 (d5 gIx (b7 1) (b7 2)) (d5 gIx (b7 1) (d5 w9 (b7 2) (cC (.int 1))))))) c1Q r7))
def m5 (fR : Fn) : SS := k7 (sIf (cB (d5 gGt (b7 2) (cC (.int 30)))) (G9 (d5 gIx (t9 (d2 (cC .none) (d2 (cC (.int 0)) l8))) (cB1 a53 (i4 (d5 gGe (b7 4) (cC (.int 0))) w3)))) r7)
  (k7 (u8 6 (X0 (d2 (l7 2) (d2 (l7 3) (d2 (l7 4) l8)))))
  (k7 (sIf (cB (a5b false (b7 6) 5)) (G9 (a0O 5 (b7 6))) r7)
  (k7 (u8 7 (cC .none))
  (k7 (u8 8 (cB1 a4I (i4 (cC (.int 0)) (i4 (cUn a1M (b7 4)) w3))))
  (k7 (a1t (a1H N6 (i4 (d5 w9 (b7 3) (cC (.int 1))) w3)) (f8 9) ((o0 fR)))
  (k7 (b0a 5 (b7 6) (l7 7))
  (a0S 7)))))))
def D8 : Fn := b5M 14 m5 33
def M4 : SS := b9r 2 (b7 4) (d5 w9 (d5 gIx (b7 2) (b7 4)) (cC (.int 1)))
def P8 : SS := k7 (sIf (cB (d5 gGe (cB1 X3 (i4 (b7 1) w3)) (d5 E2 (d5 gIx (b7 0) (cC (.int 0))) (d5 gIx (b7 0) (cC (.int 1)))))) (G9 (cC .none)) r7)
  (k7 (u8 2 (d5 E2 (t9 (d2 (cC (.int 0)) l8)) (cC (.int 33))))
  (k7 (a1t (a07 (l7 1)) (a0e 2 (m3 (f8 3) (m3 (f8 4) a0l))) M4)
  (G9 (b6T (p6 D8 (d2 (d5 gIx (b7 0) (cC (.int 0))) (d2 (l7 2) (d2 (cC (.int 1)) (d2 (d5 gIx (b7 0) (cC (.int 1))) (d2 (cC (.int 0)) (d2 (b7R (b3K true)) l8)))))))))))
def A9 : Fn := fnL 5 P8
def T1 : SS := G9 (b1r (cUn (G5 "int") (b7 0)) (c1K (cUn (G5 "bool") (b7 0))))
def o7 : Fn := fnL 1 T1
def M5 : SS := k7 (sIf (bOr (a8e (cT (cUn (G5 "tuple") (b7 0)))) (cB (d5 (gEq true) (cB1 X3 (i4 (b7 0) w3)) (d5 gIx (b7 1) (cC (.int 1)))))) (G9 (cC (.bool false))) r7)
  (G9 (cB1 b5x (i4 (cLc (a07 (b7 0)) (f8 2) a2o (b1r (cUn (G5 "tuple") (b7 2)) (d5 (gEq false) (cB1 X3 (i4 (b7 2) w3)) (d5 gIx (b7 1) (cC (.int 0))))) [2]) w3)))
def v5 : Fn := fnL 3 M5
def n6 : SS := sIf (cB (cUn a3M (b7 5))) (k7 (sIf (bOr (a8e (cT (cUn (G5 "tuple") (b7 5)))) (bOr (cB (d5 (gEq true) (cB1 X3 (i4 (b7 5) w3)) (cC (.int 2)))) (a8e (cT (cUn (G5 "str") (d5 gIx (b7 5) (cC (.int 0)))))))) (G9 (cC .none)) r7)
  (k7 (sIf (bOr (a8e (cT (p6 o7 (d2 (d5 gIx (b7 5) (cC (.int 1))) l8)))) (a8e (cB (Z9 gLe gLe (cUn a1M (cC (.int 1))) (d5 gIx (b7 5) (cC (.int 1))) (cC (.int 1)))))) (G9 (cC .none)) r7)
  (sLM 2 w5 (d2 (X0 (d2 (l7 3) (d2 (d5 gIx (b7 5) (cC (.int 0))) (d2 (d5 gIx (b7 5) (cC (.int 1))) l8)))) l8) W6))) r7
def n7 : SS := a1t (a07 (l7 4)) (f8 5) n6
def I5 : SS := k7 (sIf (bOr (a8e (cT (cUn (G5 "tuple") (b7 0)))) (bOr (cB (d5 (gEq true) (cB1 X3 (i4 (b7 0) w3)) (cC (.int 2)))) (bOr (a8e (cT (cUn (G5 "tuple") (d5 gIx (b7 0) (cC (.int 0)))))) (cB (d5 (gEq true) (cB1 X3 (i4 (d5 gIx (b7 0) (cC (.int 0))) w3)) (d5 gIx (b7 1) (cC (.int 1)))))))) (G9 (cC .none)) r7)
  (k7 (sIf (bOr (a8e (cT (cB1 b5x (i4 (cLc (a07 (d5 gIx (b7 0) (cC (.int 0)))) (f8 3) a2o (b1r (p6 o7 (d2 (l7 3) l8)) (Z9 gLe gLe (cC (.int 1)) (b7 3) (cC (.int 30)))) [3]) w3)))) (a8e (cT (p6 v5 (d2 (d5 gIx (b7 0) (cC (.int 1))) (d2 (l7 1) l8)))))) (G9 (cC .none)) r7)
  (k7 (u8 2 (t9 l8))
  (k7 (a1t (a1H b7I (i4 (d5 gIx (b7 0) (cC (.int 0))) (i4 (d5 gIx (b7 0) (cC (.int 1))) w3))) (a0e 2 (m3 (f8 3) (m3 (f8 4) a0l))) n7)
  (a0S 2))))
def t7 : Fn := fnL 6 I5
def Y2 : SS := k7 (u8 4 (p6 t7 (d2 (l7 0) (d2 (l7 1) l8))))
  (k7 (sIf (bOr (cB (cUn b71 (b7 4))) (cB (d5 (gEq true) (cLc (a07 (b7 4)) (f8 6) (cB (d5 (gEq false) (d5 gIx (b7 6) (cC (.int 1))) (cC (.str " ")))) (d5 gIx (b7 6) (cC (.int 2))) [6]) (t9 (d2 (cC (.int 0)) l8))))) (G9 (cC (.bool false))) r7)
  (k7 (u8 5 (cB1 a0A (i4 (cLc (a07 (b7 4)) (a0e 3 (m3 (f8 7) (m3 (f8 8) (m3 (f8 9) a0l)))) (cB (d5 (gEq true) (b7 8) (cC (.str " ")))) (X0 (d2 (l7 8) (d2 (d5 w9 (b7 7) (b7 9)) l8))) [7, 8, 9]) w3)))
  (G9 (b1r (d5 (gEq false) (b7 5) (cB1 a0A (i4 (b7 2) w3))) (d5 (gEq false) (cB1 X3 (i4 (cLc (a07 (b7 4)) (f8 6) (cB (d5 (gEq true) (d5 gIx (b7 6) (cC (.int 2))) (cC (.int 0)))) (l7 6) [6]) w3)) (b7 3))))))
def r9 : Fn := fnL 10 Y2
def I0 (hx : K5) : SS := k7 (u8 1 (b3W hx 0 ["Loose", "NoCase", "NoEnd", "NoHoles", "NoLine", "NoLines", "NoMold", "NoName", "NoPaper", "NoRow", "NoStep"]))
  (k7 (sIf (bOr (cT (b7 1)) (cT (b3W hx 0 ["NoText", "Tight", "TooMany"]))) (G9 (cC (.bool false))) r7)
  (G9 (b1r (c0j hx 0 "NoLayout") (c0j hx 0 "ValueError"))))
def t4 (hx : K5) : Fn := fnL 2 (I0 hx)
noncomputable def K7 : SS := a1l (G9 (p6 p9 (d2 (l7 0) (d2 (l7 1) l8)))) "CastError" 2 (fun hx => G9 (p6 (t4 hx) (d2 (l7 2) l8)))
noncomputable def l5 : Fn := fnL 3 K7
noncomputable def a4g : SS := k7 (b7g 2 (p6 G8 (d2 (l7 0) (d2 (l7 1) l8))))
  (k7 (u8 3 (d5 a4z (p6 j5 (d2 (l7 2) (d2 (cC (.int 4)) l8))) (cC (.int 3))))
  (k7 (u8 4 (X0 (d2 (d5 w9 (cC (.int 2)) (p6 j5 (d2 (l7 2) (d2 (d5 gIx (t9 (d2 (cC (.int 4)) (d2 (cC (.int 14)) l8))) (b7 3)) l8)))) (d2 (d5 w9 (cC (.int 2)) (p6 j5 (d2 (l7 2) (d2 (d5 gIx (t9 (d2 (cC (.int 4)) (d2 (cC (.int 14)) l8))) (b7 3)) l8)))) l8))))
  (k7 (u8 5 (p6 v6 (d2 (l7 2) l8)))
  (k7 (u8 6 (cB1 a4K (i4 (b7 5) w3)))
  (sFz 5 (k7 (u8 7 (p6 A9 (d2 (l7 4) (d2 (l7 5) l8))))
  (k7 (u8 8 (b6T (p6 l5 (d2 (l7 4) (d2 (l7 6) l8)))))
  (k7 (sIf (cB (d5 (gEq true) (b7 6) (b7 5))) (G9 (cC (.bool false))) r7)
  (k7 (sIf (b7T (cB (cUn b71 (b7 7))) (cB (d5 b4F (b7 8) (cC (.bool true))))) (G9 (cC (.bool false))) r7)
  (k7 (sIf (b7T (cB (cUn a3M (b7 7))) (a8e (cT (p6 r9 (d2 (l7 8) (d2 (l7 4) (d2 (l7 5) (d2 (l7 7) l8)))))))) (G9 (cC (.bool false))) r7)
  (k7 (sLM 6 a9w l8 W6)
  (sIf (a8e (cT (p6 r9 (d2 (b6T (p6 l5 (d2 (l7 4) (d2 (l7 6) l8)))) (d2 (l7 4) (d2 (t9 l8) (d2 (cC (.int 0)) l8))))))) (G9 (cC (.bool false))) r7))))))))))))
noncomputable def b4W : SS := k7 (a1t (a1H N6 (i4 (cC (.int 2)) w3)) (f8 1) a4g)
  (G9 (cC (.bool true)))
noncomputable def a7e : Fn := fnL 9 b4W

end BV
namespace BV
open PySem L2

theorem a47 {d : D} (h : A0 d = true) : q7 d = false := by cases d <;> first | rfl | cases h
theorem R8 : ∀ {ds : List D}, C4 ds = true → ∀ d ∈ ds, A0 d = true
 | d :: ds, h, e, he => by
  rw [C4, Bool.and_eq_true] at h
  rcases List.mem_cons.mp he with q | q
  ·rw [q]; exact h.1
  ·exact R8 h.2 e q
end BV
namespace BV
open PySem L2

end BV
namespace BV
open PySem L2

end BV
namespace BV
open PySem L2

def kvT (l : List (List Int × D)) : List (D × D) := l.map fun p => (.tuple (p.1.map PyData.int), p.2)
def a8w (l : List (List Int × D)) (k : List Int) : Option D := (l.find? fun p => decide (p.1 = k)).map (·.2)
def a58 (l : List (List Int × D)) (k : List Int) (v : D) : List (List Int × D) := if l.any (fun p => decide (p.1 = k)) then l.map (fun p => if p.1 = k then (p.1, v) else p) else l ++ [(k, v)]
theorem b2s (k : List Int) : a1T (G3 k) = true := by
 show (a44 (k.map Sum.inl)).isSome = true
 induction k with
 | nil => rfl
 | cons i k ih =>
  show ((a44 (k.map Sum.inl)).map _).isSome = true
  rw [Option.isSome_map]
  exact ih
theorem a40 (a b : List Int) : decide (keyOf (.tuple (a.map PyData.int)) = some (G3 b)) = decide (a = b) := by
 rw [t8, Bool.eq_iff_iff, decide_eq_true_eq, decide_eq_true_eq]
 exact ⟨fun h => F9 _ _ (Option.some.inj h), fun h => by rw [h]⟩
theorem b3J (l : List (List Int × D)) (k : List Int) : b1a (kvT l) (G3 k) = a8w l k := by
 unfold b1a a8w kvT
 rw [List.find?_map, Option.map_map]
 have : (fun p : D × D => decide (keyOf p.1 = some (G3 k))) ∘ (fun p : List Int × D => ((.tuple (p.1.map PyData.int), p.2) : D × D)) = fun p => decide (p.1 = k) := by
  funext p
  exact a40 p.1 k
 rw [this]
 rfl
theorem b3Z (l : List (List Int × D)) (k : List Int) (v : D) : b74 (kvT l) (G3 k) (.tuple (k.map PyData.int)) v = kvT (a58 l k v) := by
 unfold b74 a58
 have : ((kvT l).any fun p => decide (keyOf p.1 = some (G3 k))) = l.any fun p => decide (p.1 = k) := by
  unfold kvT
  rw [List.any_map]
  congr 1
  funext p
  exact a40 p.1 k
 rw [this]
 split
 ·unfold kvT
  rw [List.map_map, List.map_map]
  refine List.map_congr_left fun p _ => ?_
  simp only [Function.comp]
  by_cases h : p.1 = k
  ·rw [if_pos h, if_pos (by rw [t8, h])]
  ·rw [if_neg h, if_neg (by rw [t8]; exact fun z => h (F9 _ _ (Option.some.inj z)))]
 ·unfold kvT
  rw [List.map_append]
  rfl
theorem a3q (l : List (List Int × D)) (k : List Int) : a0r (mkD true (kvT l)) (.tuple (k.map PyData.int)) = some (a8w l k) := by
 unfold a0r
 rw [t8]
 show (if (b38 true (G3 k) || (true && a1T (G3 k))) = true then some (b1a (kvT l) (G3 k)) else none) = _
 rw [if_pos (by rw [b2s]; cases k <;> rfl), b3J]
theorem a73 {l : List (List Int × D)} {k : List Int} {v : D} (h : l.length < sizeLine) : a5G true (kvT l) (.tuple (k.map PyData.int)) v = some (kvT (a58 l k v)) := by
 unfold a5G
 rw [t8]
 show (if (b38 true (G3 k) || (true && a1T (G3 k))) = true ∧ (kvT l).length < sizeLine then some (b74 (kvT l) (G3 k) (.tuple (k.map PyData.int)) v) else none) = _
 rw [if_pos ⟨by rw [b2s]; cases k <;> rfl, by unfold kvT; rw [List.length_map]; exact h⟩, b3Z]
end BV
namespace BV
open PySem L2

@[simp] theorem c2C {xs ys : List D} : b7I [.tuple xs, .tuple ys] = some (a3E xs ys) := rfl
@[simp] theorem c1u {xs ys : List D} : b7I [.list xs, .list ys] = some (a3E xs ys) := rfl
end BV
namespace BV
open PySem L2

theorem b4l (c : e9) : A0 (p7 c) = true := by
 cases c with
 | none => rfl
 | some p => obtain ⟨x, i⟩ := p; rfl
end BV
namespace BV
open PySem L2

structure FC where
 col : Nat
 row : Nat
 name : Str
 cam : Int
def a7m (r : Nat) : Nat → List e9 → List FC
 | _, [] => []
 | c, none :: l => a7m r (c + 1) l
 | c, some (x, i) :: l => ⟨c, r, x, i⟩ :: a7m r (c + 1) l
def b88 : Nat → List (List e9) → List FC
 | _, [] => []
 | r, row :: rows => a7m r 0 row ++ b88 (r + 1) rows
def b6g (rows : List (List e9)) (x : Str) : Option FC := (b88 0 rows).find? fun f => decide (f.name = x)
def b8t (units : List Int) (f : FC) : Int := (units[f.row]?).getD 0 + f.cam
end BV
namespace BV
open PySem L2

def c2w (units : List Int) (rows : List (List e9)) (x : Str) : Int := match b6g rows x with
 | some f => b8t units f
 | none => 0
def b86 (units : List Int) (rows : List (List e9)) (s l f a b : Int) (x : Str) : Int := if x = blank then l + (15 * a + b) * f else c2w units rows x * s
def c1W (units : List Int) (rows : List (List e9)) (s l f a b : Int) (xs : List Str) : Int := (xs.map (b86 units rows s l f a b)).sum
def c4p (units : List Int) (rows : List (List e9)) (s l f m : Int) : D := .tuple [v4 units rows, .int s, .int l, .int f, .int m]
def sm (i : Int) : Prop := i.natAbs < 2 ^ 200
theorem Z8 {i j : Int} (h1 : sm i) (h2 : sm j) : E2 (.int i) (.int j) = some (.val (.int (i * j))) := U5 (by
 have a : i.natAbs.log2 ≤ 199 := O4 h1
 have b : j.natAbs.log2 ≤ 199 := O4 h2
 omega)
theorem Q8 {i : Int} (h0 : -2 ^ 100 ≤ i) (h1 : i ≤ 2 ^ 100) : sm i := by
 unfold sm
 have : (2:Int) ^ 200 = 2 ^ 100 * 2 ^ 100 := by decide
 have h2 : i.natAbs ≤ 2 ^ 100 := by omega
 exact Nat.lt_of_le_of_lt h2 (by decide)
structure c1S (s l f a b : Int) : Prop where
 s0 : 1 ≤ s
 s1 : s ≤ 1000
 l0 : 1 ≤ l
 l1 : l ≤ 100000
 f0 : 1 ≤ f
 f1 : f ≤ 1000
 a0 : 0 ≤ a
 a1 : a ≤ 1000000000
 b0 : 0 ≤ b
 b1 : b ≤ 1000000000
end BV
namespace BV
open PySem L2

@[simp] theorem c2h {f : SE} {ρ : En} {S : Sto} : b6T f ρ S = (match f (frE ρ) S with | .ok t S1 => if lfT t && lfS S1 then .ok t S1 else .bad | .exc e S1 => if lfS S1 then .exc e S1 else .bad | .bad => .bad) := rfl
@[simp] theorem c3C : frE [] = [] := rfl
@[simp] theorem c1V {t : Option T} {ρ : En} : frE (t :: ρ) = t.map frT :: frE ρ := rfl
@[simp] theorem c2e {d : D} : frT (.val d) = .val d := rfl
@[simp] theorem c1z {xs : List D} : frT (.own xs) = .val (.list xs) := rfl
@[simp] theorem c0u {xs : List (List D)} : frT (.own2 xs) = .val (.list (xs.map PyData.list)) := rfl
@[simp] theorem c0l {q : Bool} {kvs : List (D × D)} : frT (.ownd q kvs) = .val (.dict (mkD q kvs)) := rfl
@[simp] theorem c1C {n : Nat} : frT (.cel n) = .cel n := rfl
@[simp] theorem c2c {n : List Int} : frT (.scr n) = .scr n := rfl
@[simp] theorem c2s {xs : List D} : lfT (.own xs) = lfs xs := rfl
@[simp] theorem c2P {d : D} : lfT (.val d) = lf d := rfl
@[simp] theorem c5j : lf .none = true := rfl
@[simp] theorem c46 {b : Bool} : lf (.bool b) = true := rfl
@[simp] theorem c5g {b : Int} : lf (.int b) = true := rfl
@[simp] theorem c5h {b : Str} : lf (.str b) = true := rfl
@[simp] theorem c0m {xs : List D} : lf (.tuple xs) = lfs xs := rfl
@[simp] theorem c1e : lfs [] = true := rfl
@[simp] theorem a3o {x : D} {xs : List D} : lfs (x :: xs) = (lf x && lfs xs) := rfl
theorem b6S {n m : Nat} {S S' : Sto} (h : lfS S = true) (x : Ext n S S') (hb : HasBag S' n m) : lfS S' = true := by
 unfold lfS at h ⊢
 rw [List.all_eq_true] at h ⊢
 intro c hc
 obtain ⟨i, hi, e⟩ := List.mem_iff_getElem.mp hc
 have e1 : S'[i]? = some c := by rw [List.getElem?_eq_getElem hi, e]
 by_cases z : i = n
 ·obtain ⟨a, b, e2, _⟩ := hb
  rw [← z, e1] at e2
  cases e2
  rfl
 ·exact h c (List.mem_of_getElem? (by rw [← x.rest i z]; exact e1))
theorem b2q {S : Sto} {a b : Int} (h : lfS S = true) : lfS (S ++ [.lst [.int a, .int b]]) = true := by
 unfold lfS at h ⊢
 rw [List.all_append, h]
 rfl
theorem a1o {α : Type} (u : α → D) (h : ∀ a, lf (u a) = true) : ∀ xs : List α, lfs (xs.map u) = true
 | [] => rfl
 | x :: xs => by rw [List.map_cons, lfs, a1o u h xs, h]; rfl
theorem b4v (xs : List Int) : lfs (xs.map PyData.int) = true := a1o PyData.int (fun _ => rfl) xs
end BV
namespace BV
open PySem L2

end BV
namespace BV
open PySem L2

def a4d (units : List Int) (rows : List (List e9)) (s l f m : Int) (xs : List Str) : Int := m - c1W units rows s l f 0 0 xs
def b10 (f : Int) (xs : List Str) : Int := (xs.count blank : Nat) * f
def b6p (left each : Int) : Bool := decide (each = 0) && decide (0 < left) || decide (0 < each) && decide (224 < left / each)
structure b8S (s l f m : Int) : Prop where
 n : c1S s l f 0 0
 m0 : 1 ≤ m
 m1 : m ≤ 1000000
end BV
namespace BV
open PySem L2

section
variable {hx : K5} {i : Nat} {k : Exc → Sto → R T} {ρ ρ1 : En} {S S1 : Sto} {c : Str} {cs : List Str} {f : Str} {g : SS} {su : K5 → SS} {e : Exc} {t : T} {r : Fl} {n : Nat} {ts : List T}
@[simp] theorem c3L : b5X hx i k ρ S = (match ρ[i]? with
 | some (some (.exn a C d e)) => if a = hx.a ∧ C = hx.C ∧ d = hx.d ∧ C5 e.cls = true then k e S else .bad
 | _ => .bad) := rfl
@[simp] theorem c35 : c0j hx i c ρ S = b5X hx i (fun e S => .ok (.val (.bool (d9 e.cls c))) S) ρ S := rfl
@[simp] theorem c28 : b3W hx i cs ρ S = b5X hx i (fun e S => .ok (.val (.bool (cs.any (d9 e.cls)))) S) ρ S := rfl
@[simp] theorem c02 : a4D i (.nx ρ S) = .nx (ρ.set i none) S := rfl
@[simp] theorem c0D : a4D i (.rt t S) = .rt t S := rfl
@[simp] theorem c0p : a4D i (.bk ρ S) = .bk (ρ.set i none) S := rfl
@[simp] theorem c0K : a4D i (.ct ρ S) = .ct (ρ.set i none) S := rfl
theorem b3Y (h : g ρ S = .rt t S1) : a1l g c i su ρ S = .rt t S1 := by unfold a1l; rw [h]
theorem b3H (h : g ρ S = .ex e ρ1 S1) (he : C5 e.cls = true) (hm : d9 e.cls c = true) (hs : ∀ hx : K5, a4D i (su hx (ρ1.set i (some (.exn hx.a hx.C hx.d e))) S1) = r) : a1l g c i su ρ S = r := by
 unfold a1l
 rw [h]
 simp only
 rw [if_pos he, if_pos hm]
 exact b9y hs
end
end BV
namespace BV
open PySem L2

section
variable {units : List Int} {rows : List (List e9)} {S : Sto} {w h : Nat}
end
theorem a5R {lo : Int} {n : Nat} : j8 lo (n + 1) = .int lo :: j8 (lo + 1) n := by
 unfold j8
 rw [List.range_succ_eq_map, List.map_cons, List.map_map]
 congr 1
 ·simp
 ·refine List.map_congr_left fun k _ => ?_
  simp only [Function.comp]
  congr 1
  push_cast
  omega
section
variable {units : List Int} {rows : List (List e9)} {S : Sto} {w h : Nat}
end
end BV
namespace BV
open PySem L2

@[simp] theorem c3o {i : Nat} {m : List D → List D → Option (List D × D)} {fs : SU} {k : D → En → Sto → Fl} {ρ : En} {S : Sto} : b5O i m fs k ρ S = (match ρ[i]? with
 | some (some (.own xs)) => sA fs (fun ds ρ S => match m xs ds with | some (xs', d) => k d (ρ.set i (some (.own xs'))) S | none => .bad) ρ S
 | _ => .bad) := rfl
section
variable {units : List Int} {rows : List (List e9)} {S : Sto} {w h n m : Nat}
def b9M (x : Str) : Prop := x = "kept" ∨ x = "open" ∨ x = "struck"
def c10 (xs : List Str) (way : Str) : D := .tuple [.list (xs.map PyData.str), .str way]
end
end BV
namespace BV
open PySem L2

theorem b53 (x y : Str) : (x ++ y).length = x.length + y.length := by simp only [b5N, a15, List.length_append]
end BV
namespace BV
open PySem L2

def non : Str := "none"
abbrev c0U := List Nat
section
variable {S : Sto} {r : c0U} {rs : List c0U}
end
section
variable {S : Sto} {r : c0U} {rs : List c0U}
end
section
variable {S : Sto}
end
end BV
namespace BV
open PySem L2

theorem Y0 {α : Type} (u : α → D) {acc : List α} {x : α} (h : acc.length < 100000) : w5 (acc.map u) [u x] = some ((acc ++ [x]).map u, .none) := by
 show (if (acc.map u).length < sizeLine then some (acc.map u ++ [u x], PyData.none) else none) = _
 rw [if_pos (by rw [List.length_map]; exact y0 h), List.map_append]
 rfl
section
variable {S : Sto}
theorem a6M : ∀ (m : Nat), j8 0 m = (List.range m).map fun (i : Nat) => PyData.int (i : Int) := fun m => by
 apply List.ext_getElem?
 intro i
 rw [List.getElem?_map]
 by_cases h : i < m
 ·rw [List.getElem?_range h]
  have h2 : i < (j8 0 m).length := by simp [j8]; exact h
  rw [List.getElem?_eq_getElem h2]
  obtain ⟨_, e⟩ := J8 (List.getElem?_eq_getElem h2)
  rw [e]; rfl
 ·rw [List.getElem?_eq_none (by simp [j8]; omega), List.getElem?_eq_none (by simp; omega)]
  rfl
end
end BV
namespace BV
open PySem L2

inductive SgM where
 | letter (c r : Nat) (k : Int) | blank (c r : Nat) | coarse (s : Nat) | fine (s : Nat) | struck
 deriving DecidableEq
section
variable {w h : Nat} {S : Sto}
end
end BV
namespace BV
open PySem L2

def two (a b : Option Nat) (f : Nat → Nat → SgM) : Option SgM := match a, b with
 | some x, some y => some (f x y)
 | _, _ => none
section
variable {S : Sto} {w h : Nat}
end
end BV
namespace BV
open PySem L2

section
variable {w h : Nat} {ns : List Nat} {s : SgM}
end
end BV
namespace BV
open PySem L2

section
variable {S : Sto} {w h : Nat}
end
end BV
namespace BV
open PySem L2

section
variable {S : Sto} {w h : Nat}
end
end BV
namespace BV
open PySem L2

section
variable {S : Sto} {w h n : Nat}
end
end BV
namespace BV
open PySem L2

section
variable {units : List Int} {rows : List (List e9)} {S : Sto} {w h : Nat} {d : D} {f : FC}
end
end BV
namespace BV
open PySem L2

section
variable {units : List Int} {rows : List (List e9)} {S : Sto} {w h n : Nat} {s l f m : Int} {xs : List Str}
def sgN (rows : List (List e9)) (x : Str) : SgM := match b6g rows x with
 | some f => if f.name = blank then .blank f.col f.row else .letter f.col f.row f.cam
 | none => .struck
def b2G (i : Int) : Exc := ⟨"Tight", some ("by", .int i)⟩
def b5v (i : Int) : Exc := ⟨"Loose", some ("by", .int i)⟩
def b5f (units : List Int) (rows : List (List e9)) (s l f m : Int) (xs : List Str) : Except Exc (Nat × Nat) :=
 if a4d units rows s l f m xs < 0 then .error (b2G (-a4d units rows s l f m xs))
 else if b6p (a4d units rows s l f m xs) (b10 f xs) = true then .error (b5v (a4d units rows s l f m xs - 224 * b10 f xs))
 else if b10 f xs = 0 then .ok (0, 0)
 else .ok ((a4d units rows s l f m xs / b10 f xs / 15).toNat, (a4d units rows s l f m xs / b10 f xs % 15).toNat)
def b5C (units : List Int) (rows : List (List e9)) (s l f m : Int) (xs : List Str) : Except Exc (Nat × Nat) :=
 if a4d units rows s l f m xs < 0 then .error (b2G (-a4d units rows s l f m xs)) else .ok (0, 0)
def c1b (units : List Int) (rows : List (List e9)) (s l f m : Int) (xs : List Str) (way : Str) : Except Exc (List SgM) :=
 if way = "struck" then .ok [.struck]
 else match (if way = "kept" then b5f units rows s l f m xs else b5C units rows s l f m xs) with
  | .ok p => .ok [.coarse p.1, .fine p.2]
  | .error e => .error e
def b1x (units : List Int) (rows : List (List e9)) (s l f m : Int) (xs : List Str) (way : Str) : Except Exc (List SgM) := match c1b units rows s l f m xs way with
 | .ok es => .ok (xs.map (sgN rows) ++ es)
 | .error e => .error e
abbrev a2T := List Str × Str
def b9U (p : a2T) : D := c10 p.1 p.2
def a1Z (units : List Int) (rows : List (List e9)) (s l f m : Int) : List a2T → Except Exc (List SgM)
 | [] => .ok []
 | p :: ps => match b1x units rows s l f m p.1 p.2 with
  | .error e => .error e
  | .ok a => match a1Z units rows s l f m ps with
   | .error e => .error e
   | .ok b => .ok (a ++ b)
def b9N : Exc := ⟨"TooMany", none⟩
def b1H (units : List Int) (rows : List (List e9)) (s l f m : Int) (ps : List a2T) : Except Exc (List SgM) := match a1Z units rows s l f m ps with
 | .error e => .error e
 | .ok ss => if 400 < ss.length then .error b9N else .ok ss
end
end BV
namespace BV
open PySem L2

section
variable {units : List Int} {rows : List (List e9)} {S : Sto} {w h n : Nat} {s l f m : Int}
end
end BV
namespace BV
open PySem L2
section
variable {units : List Int} {rows : List (List e9)} {S : Sto} {w h n : Nat} {s l f m : Int}
structure c3A where
 b : Nat
 e : Nat
 st : Option (Nat × Nat)
 xs : List Str
 deriving DecidableEq
end
end BV
namespace BV
open PySem L2
section
variable {units : List Int} {rows : List (List e9)} {S : Sto} {w h n : Nat} {s l f m : Int}
theorem snoc {α : Type} : ∀ {xs : List α}, xs ≠ [] → ∃ ys x, xs = ys ++ [x]
 | [], h => absurd rfl h
 | [x], _ => ⟨[], x, rfl⟩
 | x :: y :: r, _ => by
  obtain ⟨ys, z, e⟩ := snoc (xs := y :: r) (by simp)
  exact ⟨x :: ys, z, by rw [e]; rfl⟩
def b9F (units : List Int) (rows : List (List e9)) (s l f m : Int) (p : a2T) : List SgM := match b1x units rows s l f m p.1 p.2 with
 | .ok a => a
 | .error _ => []
def c2X (units : List Int) (rows : List (List e9)) (s l f m : Int) (p : a2T) : Option (Nat × Nat) := if p.2 = "struck" then none else match (if p.2 = "kept" then b5f units rows s l f m p.1 else b5C units rows s l f m p.1) with
 | .ok z => some z
 | .error _ => none
def c1x (units : List Int) (rows : List (List e9)) (s l f m : Int) (b : Nat) (p : a2T) : c3A := ⟨b, b + (b9F units rows s l f m p).length, c2X units rows s l f m p, if (c2X units rows s l f m p).isSome then p.1.reverse else []⟩
def readOf (units : List Int) (rows : List (List e9)) (s l f m : Int) : Nat → List a2T → List c3A
 | _, [] => []
 | b, p :: ps => c1x units rows s l f m b p :: readOf units rows s l f m (b + (b9F units rows s l f m p).length) ps
end
end BV
namespace BV
open PySem L2
section
variable {units : List Int} {rows : List (List e9)} {S : Sto} {w h n : Nat} {s l f m : Int}
structure WideOk (s l f m : Int) : Prop where
 s0 : 1 ≤ s
 s1 : s ≤ 4
 l0 : 1 ≤ l
 l1 : l ≤ 50
 f0 : 40 ≤ f
 f1 : f < 140
 m0 : 8000 ≤ m
 m1 : m < 9000
theorem WideOk.job (q : WideOk s l f m) : b8S s l f m := by
 obtain ⟨_, _, _, _, _, _, _, _⟩ := q
 exact ⟨⟨by omega, by omega, by omega, by omega, by omega, by omega, by omega, by omega, by omega, by omega⟩, by omega, by omega⟩
end
end BV
namespace BV
open PySem L2
section
variable {units : List Int} {rows : List (List e9)} {S : Sto} {w h n : Nat} {s l f m : Int}
end
end BV
namespace BV
open PySem L2
section
variable {units : List Int} {rows : List (List e9)} {S : Sto} {w h n : Nat} {s l f m : Int}
def a61 (rows : List (List e9)) (x : Str) : Int × Int := match b6g rows x with
 | some g => ((g.col : Int), (g.row : Int))
 | none => (-1, -1)
abbrev Cts := List ((Int × Int) × Nat)
def kvP (ps : Cts) : List (List Int × D) := ps.map fun q => (C8 q.1, .int (q.2 : Int))
def c3l (ps : Cts) (k : Int × Int) (n : Nat) : Cts := if ps.any (fun q => decide (q.1 = k)) then ps.map (fun q => if q.1 = k then (q.1, n) else q) else ps ++ [(k, n)]
theorem b27 {a b : Int × Int} : C8 a = C8 b ↔ a = b := by
 unfold C8
 constructor
 ·intro h
  injection h with h1 h2
  injection h2 with h3 _
  exact Prod.ext h1 h3
 ·intro h; rw [h]
def cnt (rows : List (List e9)) (xs : List Str) (k : Int × Int) : Nat := xs.countP fun x => decide (a61 rows x = k)
structure CntOk (rows : List (List e9)) (ps : Cts) (xs : List Str) : Prop where
 nd : (ps.map (·.1)).Nodup
 mem : ∀ q, q ∈ ps ↔ 0 < q.2 ∧ q.2 = cnt rows xs q.1
theorem CntOk.key {ps : Cts} {xs : List Str} (c : CntOk rows ps xs) (k : Int × Int) : k ∈ ps.map (·.1) ↔ 0 < cnt rows xs k := by
 rw [List.mem_map]
 constructor
 ·rintro ⟨q, hq, rfl⟩
  obtain ⟨h1, h2⟩ := (c.mem q).mp hq
  omega
 ·intro h
  exact ⟨(k, cnt rows xs k), (c.mem _).mpr ⟨h, rfl⟩, rfl⟩
theorem CntOk.get {ps : Cts} {xs : List Str} (c : CntOk rows ps xs) (k : Int × Int) : a8w (kvP ps) (C8 k) = if 0 < cnt rows xs k then some (.int (cnt rows xs k : Int)) else none := by
 unfold a8w kvP
 rw [List.find?_map, Option.map_map]
 have e : ((fun p : List Int × D => decide (p.1 = C8 k)) ∘ fun q : (Int × Int) × Nat => (C8 q.1, PyData.int (q.2 : Int))) = fun q => decide (q.1 = k) := by
  funext q
  show decide (C8 q.1 = C8 k) = decide (q.1 = k)
  rw [Bool.eq_iff_iff, decide_eq_true_eq, decide_eq_true_eq]
  exact b27
 rw [e]
 cases hf : ps.find? (fun q => decide (q.1 = k)) with
 | none =>
  rw [if_neg]
  ·rfl
  ·intro h
   have := (c.mem (k, cnt rows xs k)).mpr ⟨h, rfl⟩
   have := List.find?_eq_none.mp hf _ this
   simp at this
 | some q =>
  have hk : q.1 = k := by
   have := List.find?_some hf
   exact of_decide_eq_true this
  obtain ⟨h1, h2⟩ := (c.mem q).mp (List.mem_of_find?_eq_some hf)
  rw [hk] at h2
  rw [if_pos (by omega), ← h2]
  rfl
theorem a8X (xs : List Str) (x : Str) (k : Int × Int) : cnt rows (xs ++ [x]) k = cnt rows xs k + if a61 rows x = k then 1 else 0 := by
 unfold cnt
 rw [List.countP_append, List.countP_singleton]
 simp
theorem CntOk.put {ps : Cts} {xs : List Str} (c : CntOk rows ps xs) (x : Str) : CntOk rows (c3l ps (a61 rows x) (cnt rows xs (a61 rows x) + 1)) (xs ++ [x]) := by
 have hk : (ps.any fun q => decide (q.1 = a61 rows x)) = decide (a61 rows x ∈ ps.map (·.1)) := by
  rw [Bool.eq_iff_iff, List.any_eq_true, decide_eq_true_eq, List.mem_map]
  exact ⟨fun ⟨q, h1, h2⟩ => ⟨q, h1, of_decide_eq_true h2⟩, fun ⟨q, h1, h2⟩ => ⟨q, h1, decide_eq_true h2⟩⟩
 unfold c3l
 rw [hk]
 by_cases h : a61 rows x ∈ ps.map (·.1)
 ·rw [if_pos (decide_eq_true h)]
  constructor
  ·have : (ps.map fun q => if q.1 = a61 rows x then (q.1, cnt rows xs (a61 rows x) + 1) else q).map (·.1) = ps.map (·.1) := by
    rw [List.map_map]
    refine List.map_congr_left fun q _ => ?_
    simp only [Function.comp]
    split <;> rfl
   rw [this]
   exact c.nd
  ·intro q
   rw [List.mem_map, a8X]
   constructor
   ·rintro ⟨p, hp, rfl⟩
    obtain ⟨h1, h2⟩ := (c.mem p).mp hp
    by_cases hq : p.1 = a61 rows x
    ·rw [if_pos hq]
     simp only
     rw [if_pos hq.symm, hq]
     omega
    ·rw [if_neg hq, if_neg (fun z => hq z.symm)]
     exact ⟨h1, by omega⟩
   ·rintro ⟨h1, h2⟩
    by_cases hq : a61 rows x = q.1
    ·rw [if_pos hq] at h2
     obtain ⟨p, hp, e⟩ := List.mem_map.mp h
     refine ⟨p, hp, ?_⟩
     rw [if_pos e]
     exact Prod.ext (e.trans hq) (by simp only; rw [h2, hq])
    ·rw [if_neg hq] at h2
     refine ⟨q, (c.mem q).mpr ⟨h1, by omega⟩, ?_⟩
     rw [if_neg (fun z => hq z.symm)]
 ·rw [if_neg (by simpa using h)]
  have h0 : cnt rows xs (a61 rows x) = 0 := by
   exact Nat.eq_zero_of_not_pos fun z => h ((c.key (a61 rows x)).mpr z)
  constructor
  ·rw [List.map_append, List.nodup_append]
   refine ⟨c.nd, by simp, fun a ha b hb => ?_⟩
   simp at hb
   subst hb
   intro z
   rw [z] at ha
   exact h ha
  ·intro q
   rw [List.mem_append, List.mem_singleton, a8X]
   constructor
   ·rintro (hq | rfl)
    ·obtain ⟨h1, h2⟩ := (c.mem q).mp hq
     have : ¬ a61 rows x = q.1 := fun z => h (by rw [z]; exact List.mem_map.mpr ⟨q, hq, rfl⟩)
     rw [if_neg this]
     exact ⟨h1, by omega⟩
    ·simp
   ·rintro ⟨h1, h2⟩
    by_cases hq : a61 rows x = q.1
    ·right
     rw [if_pos hq] at h2
     exact Prod.ext hq.symm (by simp only; rw [h2, hq])
    ·left
     rw [if_neg hq] at h2
     exact (c.mem q).mpr ⟨h1, by omega⟩
end
end BV
namespace BV
open PySem L2
section
variable {units : List Int} {rows : List (List e9)} {S : Sto} {w h n : Nat} {s l f m : Int}
theorem W4 {α : Type} {b : BT1} {tt : SB} {elt : SE} {ρ : En} (u : α → D) (p : α → Bool) (g : α → D) : ∀ (xs : List α), (∀ x ∈ xs, ∃ ρ1 t, b (u x) ρ = some ρ1 ∧ tt ρ1 S = .ok (p x) S ∧ elt ρ1 S = .ok t S ∧ asD t = some (g x)) → lcM b tt elt ρ (xs.map u) S = .ok ((xs.filter p).map g) S
 | [], _ => rfl
 | x :: xs, h => by
  obtain ⟨ρ1, t, e1, e2, e3, e4⟩ := h x (List.mem_cons_self ..)
  have ih := W4 u p g xs fun y hy => h y (List.mem_cons_of_mem _ hy)
  rw [List.map_cons]
  unfold lcM
  cases q : p x with
  | true => simp only [e1, e2, q, e3, e4, ih, a1g, List.filter_cons, if_true, List.map_cons]
  | false => simp only [e1, e2, q, ih, List.filter_cons, Bool.false_eq_true, if_false]
end
end BV
namespace BV
open PySem L2
section
variable {units : List Int} {rows : List (List e9)} {S : Sto} {w h n : Nat} {s l f m : Int}
end
end BV
namespace BV
open PySem L2
section
variable {units : List Int} {rows : List (List e9)} {S : Sto} {w h n : Nat} {s l f m : Int}
end
end BV
namespace BV
open PySem L2
theorem a71 {α : Type} {xs : List α} {i j : Nat} (h : i ≤ xs.length) (hj : i ≤ j) : a19 xs (some (i : Int)) (some (j : Int)) = (xs.drop i).take (j - i) := by
 unfold a19
 rw [HT.sIx_nat, HT.sIx_nat, Nat.min_eq_left h]
 by_cases q : j ≤ xs.length
 ·rw [Nat.min_eq_left q]
 ·rw [Nat.min_eq_right (by omega), List.take_of_length_le (by rw [List.length_drop]; omega), List.take_of_length_le (by rw [List.length_drop]; omega)]
section
variable {S : Sto}
end
end BV
namespace BV
open PySem L2
structure b56 (ws : List Str) : Prop where
 free : ∀ p ∈ ws, 32 ∉ p.cps.toList
 ok : ∀ p ∈ ws, PyData.strOk p = true
 pos : ∀ p ∈ ws, 1 ≤ p.length
 most : ∀ p ∈ ws, p.length ≤ 200
 few : ws.length ≤ 100
section
variable {S : Sto} {units : List Int} {rows : List (List e9)} {w h : Nat} {s l f m : Int}
end
end BV
namespace BV
open PySem L2
section
variable {S : Sto} {units : List Int} {rows : List (List e9)} {w h : Nat} {s l f m : Int}
def pr (t : Int × Int × Nat) : Int × Int := (t.1, t.2.1)
theorem c3u {a b : Int} {x y : List (Int ⊕ List Nat)} : PyProof.Rows.lexLt PyProof.Rows.itemOrd (.inl a :: x) (.inl b :: y) = if a = b then PyProof.Rows.lexLt PyProof.Rows.itemOrd x y else decide (a < b) := by
 by_cases e : a = b
 ·subst e
  rw [if_pos rfl]
  exact PyProof.Rows.lex_self (O := PyProof.Rows.itemOrd) _ _ _
 ·rw [if_neg e, PyProof.Rows.lex_diff (O := PyProof.Rows.itemOrd) (by intro z; exact e (Sum.inl.inj z))]
  rfl
end
end BV
namespace BV
open PySem L2
section
variable {S : Sto} {units : List Int} {rows : List (List e9)} {w h : Nat} {s l f m : Int}
end
end BV
namespace BV
open PySem L2
section
variable {S : Sto} {units : List Int} {rows : List (List e9)} {w h n m : Nat} {s l f g : Int}
end
end BV
namespace BV
open PySem L2
section
variable {S : Sto} {units : List Int} {rows : List (List e9)} {w h n m : Nat} {s l f g : Int}
structure Lt (k : Nat) (x : Str) : Prop where
 all : ∀ c ∈ x.cps.toList, 97 ≤ c ∧ c ≤ 122
 len : x.length ≤ k
theorem Lt.mono {j k : Nat} {x : Str} (a : Lt j x) (h : j ≤ k) : Lt k x := ⟨a.all, Nat.le_trans a.len h⟩
theorem Lt.ok {k : Nat} {x : Str} (a : Lt k x) : PyData.strOk x = true := ok_cps.mpr fun c hc => by have := a.all c hc; omega
theorem Lt.free {k : Nat} {x : Str} (a : Lt k x) : 32 ∉ x.cps.toList := fun z => by have := a.all 32 z; omega
end
end BV
namespace BV
open PySem L2
section
variable {S : Sto} {units : List Int} {rows : List (List e9)} {w h n : Nat} {s l f m : Int}
end
end BV
namespace BV
open PySem L2

end BV
namespace BV
open PySem L2

end BV
namespace BV
open PySem PySem.Spec PyProof.Rows L2
section
variable {ρ : En} {S S1 : Sto} {f fe : SE} {g : SB} {t : T} {n : Nat} {v v' : DskV} {j : D} {ls rs : List D} {i : Nat} {x : Str}
end
def c2U (j : D) (ls : List D) (ah un : List D) : DskV := ⟨some j, some (.list ls), some ah, some un⟩
def c2u (j : D) (ls : List D) : D := .tuple [j, .list ls]
section
variable {S : Sto} {n : Nat} {j j' : D} {ls ls' rs ah un : List D}
theorem at0 {v : DskV} {ρ : En} (h : S[n]? = some (.rcd false v)) : atR (some (.cel n) :: ρ) S 0 false = some (n, v) := b84 rfl h
end
end BV
namespace BV
open PySem L2

end BV
namespace BV
open PySem L2
section
variable {S : Sto}
end
end BV
namespace BV
open PySem PySem.Spec PyProof.Rows L2

def b5T : Exc := ⟨"NoName", none⟩
def b3E : Exc := ⟨"NoLines", none⟩
structure c4F (ws : List Str) : Prop where
 pos : ∀ p ∈ ws, 1 ≤ p.length
 most : ∀ p ∈ ws, p.length ≤ 400
 few : ws.length ≤ 150
section
variable {S : Sto} {units : List Int} {rows : List (List e9)} {w h : Nat}
end
end BV
namespace BV
open PySem PySem.Spec PyProof.Rows L2
section
variable {S : Sto} {units : List Int} {rows : List (List e9)} {w h : Nat}
end
end BV
namespace BV
open PySem PySem.Spec PyProof.Rows L2
end BV
namespace BV
open PySem PySem.Spec PyProof.Rows L2
def b2E : List Str := ["NoName", "NoLines", "Tight", "Loose", "TooMany", "NoLine", "NoText", "NoRow", "NoStep"]
section
variable {v : DskV} {S : Sto} {row : Str} {n : Nat}
section
variable {hx : K5} {e : Exc} {ρ : En}
end
end
end BV
namespace BV
open PySem PySem.Spec PyProof.Rows L2
section
variable {S : Sto} {units : List Int} {rows : List (List e9)} {w h : Nat} {s l f m : Int} {xs : List Str}
def ByE (e : Exc) : Prop := e = b9N ∨ ∃ n : Nat, n ≤ 1000000000 ∧ (e = b2G (n : Int) ∨ e = b5v (n : Int))
theorem ByE.said {e : Exc} (h : ByE e) : e.cls ∈ b2E := by
 have h1 : ("TooMany" : Str) ∈ b2E := by decide
 have h2 : ("Tight" : Str) ∈ b2E := by decide
 have h3 : ("Loose" : Str) ∈ b2E := by decide
 rcases h with rfl | ⟨n, _, rfl | rfl⟩
 ·exact h1
 ·exact h2
 ·exact h3
end
end BV
namespace BV
open PySem PySem.Spec PyProof.Rows L2
structure JobM where
 w : Nat
 h : Nat
 units : List Int
 rows : List (List e9)
 s : Int
 l : Int
 f : Int
 m : Int
def JobM.d (J : JobM) : D := c4p J.units J.rows J.s J.l J.f J.m
structure c4j (J : JobM) : Prop where
 ck : b8s J.w J.h J.units J.rows
 hw : J.w ≤ 15
 hh : J.h ≤ 15
 q : b8S J.s J.l J.f J.m
def c2o (J : JobM) (ps : List a2T) : Except Exc (List SgM) := b1H J.units J.rows J.s J.l J.f J.m ps
def b3d (ps : List a2T) : List D := ps.map b9U
structure LinesG (J : JobM) (ps : List a2T) : Prop where
 mem : ∀ p ∈ ps, (∀ x ∈ p.1, x ∈ I9 J.rows) ∧ p.1.length ≤ 60
 way : ∀ p ∈ ps, b9M p.2
 few : ps.length ≤ 500
section
variable {S : Sto} {J : JobM} {ps : List a2T}
theorem b35 {units : List Int} {rows : List (List e9)} {s l f m : Int} {xs : List Str} {way : Str} {a : List SgM} (e : b1x units rows s l f m xs way = .ok a) : 1 ≤ a.length := by
 unfold b1x at e
 cases r : c1b units rows s l f m xs way with
 | error _ => rw [r] at e; cases e
 | ok es =>
  rw [r] at e
  cases e
  have : 1 ≤ es.length := by
   unfold c1b at r
   split at r
   ·cases r; exact Nat.le_refl _
   ·split at r
    ·cases r; simp
    ·cases r
  rw [List.length_append]
  omega
theorem a31 {units : List Int} {rows : List (List e9)} {s l f m : Int} : ∀ {ps : List a2T} {a : List SgM}, a1Z units rows s l f m ps = .ok a → ps.length ≤ a.length
 | [], a, e => by cases e; exact Nat.le_refl _
 | p :: ps, a, e => by
  unfold a1Z at e
  cases r : b1x units rows s l f m p.1 p.2 with
  | error _ => rw [r] at e; cases e
  | ok b =>
   rw [r] at e
   cases r2 : a1Z units rows s l f m ps with
   | error _ => rw [r2] at e; cases e
   | ok c =>
    rw [r2] at e
    cases e
    have h1 := b35 r
    have h2 := a31 r2
    rw [List.length_append, List.length_cons]
    omega
theorem b6I {ss : List SgM} (h : c2o J ps = .ok ss) : ps.length ≤ 400 ∧ ss.length ≤ 400 := by
 unfold c2o b1H at h
 cases r : a1Z J.units J.rows J.s J.l J.f J.m ps with
 | error e => rw [r] at h; cases h
 | ok s' =>
  rw [r] at h
  simp only at h
  split at h
  ·cases h
  ·cases h
   have := a31 r
   constructor <;> omega
end
section
variable {ρ : En} {S S1 : Sto} {f fe : SE} {t : T} {n : Nat} {v v' : DskV} {i : Nat} {x : Str} {b : Bool}
end
section
variable {g : SS} {hs : List (List Str × Nat × (K5 → SS))} {ρ ρ1 : En} {S S1 : Sto} {t : T} {e : Exc} {r : Fl} {cs : List Str} {i : Nat} {su : K5 → SS}
end
section
variable {S : Sto} {J : JobM} {ps : List a2T}
end
section
variable {S : Sto} {n : Nat} {j j' : D} {ls ls' ah un : List D} {mr : Fn} {an : Exc → Str}
end
end BV
namespace BV
open PySem PySem.Spec PyProof.Rows L2
theorem b4x (c : e9) : (p7 c).depth ≤ 1 := by
 cases c with
 | none => simp [p7, PyData.depth]
 | some p => obtain ⟨x, i⟩ := p; simp [p7, PyData.depth, PyData.depthAll]
abbrev b2L := JobM × List a2T
def b9L (p : b2L) : D := c2u p.1.d (b3d p.2)
section
variable {S : Sto} {n : Nat} {j : D} {ls ah un : List D} {mr : Fn} {an : Exc → Str} {v : DskV} {f g : Str}
end
end BV
namespace BV
open PySem PySem.Spec PyProof.Rows L2
section
variable {J : JobM} {ws : List Str}
end
section
variable {S : Sto} {J : JobM} {ws : List Str}
end
end BV
namespace BV
open PySem PySem.Spec PyProof.Rows L2
def c4v (c : Nat) : Bool := decide (48 ≤ c) && decide (c ≤ 57)
def c4f (x : Str) : Str := match x.cps.toList with
 | [] => x
 | c :: _ => ⟨#[c]⟩
def c4H (x : Str) : Bool := decide (1 ≤ x.length) && decide (x.length ≤ 7) && x.cps.toList.all c4v && (decide (x = "0") || decide (c4f x ≠ "0"))
section
variable {S : Sto} {x : Str}
end
section
variable {S : Sto} {w : Str} {r : List Str}
end
section
variable {S : Sto} {n : Nat} {v : DskV} {row w : Str} {ws : List Str}
end
end BV
namespace BV
open PySem PySem.Spec PyProof.Rows L2
structure DM where
 J : JobM
 ps : List a2T
 ah : List b2L
 un : List b2L
def DM.v (M : DM) : DskV := c2U M.J.d (b3d M.ps) (M.ah.map b9L) (M.un.map b9L)
structure KeptG (p : b2L) : Prop where
 g : c4j p.1
 k : LinesG p.1 p.2
 r : ∃ ss, c2o p.1 p.2 = .ok ss
structure DMG (c : Nat) (M : DM) : Prop where
 now : KeptG (M.J, M.ps)
 ah : ∀ p ∈ M.ah, KeptG p
 un : ∀ p ∈ M.un, KeptG p
 few : M.ah.length + M.un.length ≤ c
def b58 : Exc := ⟨"NoStep", none⟩
def b7u : Exc := ⟨"NoLine", none⟩
section
variable {S : Sto} {n c : Nat} {M : DM} {J' : JobM} {ps' : List a2T}
variable {mr : Fn} {an : Exc → Str}
end
end BV
namespace BV
open PySem PySem.Spec PyProof.Rows L2
inductive LW
 | key
 | opn
 | strike
def LW.way : LW → Str
 | .key => "kept"
 | .opn => "open"
 | .strike => "struck"
theorem LW.ok (a : LW) : b9M a.way := by
 cases a
 ·exact .inl rfl
 ·exact .inr (.inl rfl)
 ·exact .inr (.inr rfl)
structure WsG (ws : List Str) : Prop where
 ok : b56 ws
 m190 : ∀ p ∈ ws, p.length ≤ 190
theorem WsG.wd {ws : List Str} (h : WsG ws) : c4F ws := ⟨h.ok.pos, fun p hp => Nat.le_trans (h.m190 p hp) (by decide), Nat.le_trans h.ok.few (by decide)⟩
inductive DeedM
 | line (a : LW) (ws : List Str)
 | text (ws : List Str)
 | mend (kt : Str) (k : Nat) (ws : List Str)
 | undo
 | redo
def DeedM.G : DeedM → Prop
 | .line _ ws => WsG ws
 | .text ws => WsG ws
 | .mend kt k ws => WsG ws ∧ c4H kt = true ∧ c2G [.str kt] = some (.val (.int (k : Int))) ∧ k ≤ 10000000
 | .undo => True
 | .redo => True
theorem LinesG.sub {J : JobM} {ps qs : List a2T} (h : LinesG J ps) (h2 : ∀ p ∈ qs, p ∈ ps) (hl : qs.length ≤ 500) : LinesG J qs := ⟨fun p hp => h.mem p (h2 p hp), fun p hp => h.way p (h2 p hp), hl⟩
theorem KeptG.few {p : b2L} (h : KeptG p) : p.2.length ≤ 400 := by
 obtain ⟨ss, hr⟩ := h.r
 exact (b6I hr).1
section
variable {M : DM} {c : Nat} {r : DeedM}
def DeedE (e : Exc) : Prop := ByE e ∨ e = b5T ∨ e = b3E ∨ e = b7u ∨ e = b58
theorem DeedE.said {e : Exc} (h : DeedE e) : e.cls ∈ b2E := by
 rcases h with h | rfl | rfl | rfl | rfl
 ·exact h.said
 all_goals decide
end
end BV
namespace BV
open PySem PySem.Spec PyProof.Rows L2
section
variable {S : Sto} {n c : Nat} {M : DM} {r : DeedM} {row w : Str} {ws : List Str} {v : DskV} {ρ : En}
end
end BV
namespace BV
open PySem PySem.Spec PyProof.Rows L2
section
variable {S : Sto} {n c : Nat} {M : DM} {r : DeedM} {row w kt : Str} {ws : List Str} {v : DskV} {ρ : En} {k : Nat}
end
end BV
namespace BV
open PySem PySem.Spec PyProof.Rows L2
section
variable {S : Sto} {n c : Nat} {M : DM} {r : DeedM} {row w kt : Str} {ws : List Str} {v : DskV} {ρ : En} {k : Nat} {mr : Fn} {an : Exc → Str}
end
end BV
namespace BV
open PySem PySem.Spec PyProof.Rows L2
section
variable {S : Sto} {n c : Nat} {M : DM} {r : DeedM} {row w kt : Str} {ws us : List Str} {v : DskV} {ρ : En} {k : Nat} {mr : Fn} {an : Exc → Str}
end
end BV
namespace BV
open PySem PySem.Spec PyProof.Rows L2
def c4t (k : Nat) (x : Str) : Prop := Lt k x ∧ 1 ≤ x.length
section
variable {S : Sto} {n m : Nat}
end
end BV
namespace BV
open PySem PySem.Spec PyProof.Rows L2
section
variable {S : Sto} {units : List Int} {jt wd c : D}
variable {rows : List (List e9)} {w h : Nat} {s l : Int}
end
end BV
namespace BV
open PySem PySem.Spec PyProof.Rows L2
theorem b9w {S S' : Sto} {n m : Nat} (h : lfS S = true) (x : Ext n S S') (b : HasBag S' n m) : lfS S' = true := by
 unfold lfS at h ⊢
 rw [List.all_eq_true] at h ⊢
 intro k hk
 obtain ⟨j, hj⟩ := List.getElem?_of_mem hk
 by_cases e : j = n
 ·subst e
  obtain ⟨a, c, e1, _⟩ := b
  rw [hj] at e1
  cases e1
  rfl
 ·rw [x.rest j e] at hj
  exact h k (List.mem_of_getElem? hj)
section
variable {S : Sto} {n m : Nat}
end
end BV
namespace BV
open PySem L2

section
variable {S : Sto}
end
end BV

namespace BV
open PySem L2

section
variable {S : Sto} {d : D}
end
end BV

namespace BV
open PySem L2

section
variable {S : Sto} {d : D}
end
end BV
namespace BV
open PySem PySem.Spec PyProof.Rows L2
structure PcOk (j : Nat) (x : Str) : Prop where
 free : 32 ∉ x.cps.toList
 ok : PyData.strOk x = true
 pos : 1 ≤ x.length
 most : x.length ≤ j
theorem PcOk.mono {i j : Nat} {x : Str} (h : PcOk i x) (hij : i ≤ j) : PcOk j x := ⟨h.free, h.ok, h.pos, Nat.le_trans h.most hij⟩
end BV
namespace BV
open PySem PySem.Spec PyProof.Rows L2
section
variable {S : Sto} {n c w h : Nat} {M : DM} {row : Str} {us : List Int} {rs : List (List e9)} {ws : List Str} {ρ : En}
end
end BV
namespace BV
open PySem PySem.Spec PyProof.Rows L2
section
variable {S : Sto} {n c : Nat} {M : DM}
end
structure DeskS (S : Sto) (M Q : DM) : Prop where
 t : S[0]? = some .tab
 d : S[1]? = some (.rcd false M.v)
 q : S[2]? = some (.rcd true Q.v)
 l : lfS (b3q S) = true
structure Far (S S' : Sto) : Prop where
 len : S'.length = S.length
 rest : ∀ j, 3 ≤ j → S'[j]? = S[j]?
theorem Far.refl {S : Sto} : Far S S := ⟨rfl, fun _ _ => rfl⟩
theorem Far.trans {S S1 S2 : Sto} (a : Far S S1) (b : Far S1 S2) : Far S S2 := ⟨b.len.trans a.len, fun j h => (b.rest j h).trans (a.rest j h)⟩
section
variable {S S' : Sto} {M Q M' : DM} {n m c : Nat} {row : Str} {r : DeedM}
theorem b6e (h : HasBag S n m) : HasBag (b3q S) n m := by
 obtain ⟨a, b, e, q⟩ := h
 exact ⟨a, b, b6b e, q⟩
theorem DeskS.ext (h : DeskS S M Q) (x : Ext n S S') (hn : 3 ≤ n) (b : HasBag S' n m) : DeskS S' M Q := by
 refine ⟨by rw [x.rest 0 (by omega)]; exact h.t, by rw [x.rest 1 (by omega)]; exact h.d, by rw [x.rest 2 (by omega)]; exact h.q, ?_⟩
 refine b9w (n := n) (m := m) h.l ⟨by rw [a7Y, a7Y]; exact x.len, fun j hj => ?_⟩ (b6e b)
 unfold b3q
 rw [List.getElem?_map, List.getElem?_map, x.rest j hj]
theorem DeskS.new (h : DeskS S M Q) {a b : Int} : DeskS (S ++ [.lst [.int a, .int b]]) M Q := by
 have h1 := (List.getElem?_eq_some_iff.mp h.q).1
 refine ⟨by rw [List.getElem?_append_left (by omega)]; exact h.t, by rw [List.getElem?_append_left (by omega)]; exact h.d, by rw [List.getElem?_append_left h1]; exact h.q, ?_⟩
 have : b3q (S ++ [.lst [.int a, .int b]]) = b3q S ++ [.lst [.int a, .int b]] := by unfold b3q; rw [List.map_append]; rfl
 rw [this]
 exact b2q h.l
end
end BV
namespace BV
open PySem PySem.Spec PyProof.Rows L2
section
variable {S : Sto} {J : JobM} {said : Fn}
end
end BV
namespace BV
open PySem PySem.Spec PyProof.Rows L2
structure NmsG (M : List Str) : Prop where
 ne : M ≠ []
 nm : ∀ x ∈ M, IsName x
 few : M.length ≤ 1000
structure GW (p : Str) : Prop where
 free : 32 ∉ p.cps.toList
 ok : PyData.strOk p = true
 pos : 1 ≤ p.length
 most : p.length ≤ 190
theorem WsG.of {ws : List Str} (h : ∀ p ∈ ws, GW p) (hl : ws.length ≤ 100) : WsG ws := ⟨⟨fun p hp => (h p hp).free, fun p hp => (h p hp).ok, fun p hp => (h p hp).pos, fun p hp => Nat.le_trans (h p hp).most (by decide), hl⟩, fun p hp => (h p hp).most⟩
theorem GW.rep {x : Str} (h : IsName x) {k : Nat} (h1 : 1 ≤ k) (h2 : k ≤ 61) : GW (b8H x k) := by
 have hl : (b8H x k).length = x.length * k := b4Q x k
 have hp := h.pos
 have hm := h.most
 have : 1 * 1 ≤ x.length * k := Nat.mul_le_mul hp h1
 have : x.length * k ≤ 3 * 61 := Nat.mul_le_mul hm h2
 have hc : ∀ c ∈ (b8H x k).cps.toList, 97 ≤ c ∧ c ≤ 122 := by
  intro c hc
  rw [b36, List.mem_flatten] at hc
  obtain ⟨l, h3, h4⟩ := hc
  rw [(List.mem_replicate.mp h3).2] at h4
  exact h.all c h4
 exact ⟨fun z => by have := hc 32 z; omega, ok_cps.mpr fun c z => by have := hc c z; omega, by omega, by omega⟩
section
variable {S S1 S2 : Sto} {M Q M' : DM} {n m c : Nat} {row : Str} {r : DeedM}
end
section
variable {ns : List Int} {tl : En} {rest : SS}
end
end BV
namespace BV
open PySem PySem.Spec PyProof.Rows L2
theorem IsName.wd {x : Str} (h : IsName x) : c4t 12 x := ⟨⟨h.all, Nat.le_trans h.most (by decide)⟩, h.pos⟩
section
variable {S : Sto} {n m : Nat} {M : List Str}
end
end BV
namespace BV
open PySem PySem.Spec PyProof.Rows L2
theorem DMG.mono {c c' : Nat} {M : DM} (h : DMG c M) (hc : c ≤ c') : DMG c' M := ⟨h.now, h.ah, h.un, Nat.le_trans h.few hc⟩
section
variable {S : Sto} {ρ : En} {i j n m : Nat} {t : T} {xs : List D}
theorem T7 {q : Nat} {d : D} (h : (j8 1 q)[i]? = some d) : i < q ∧ d = .int ((1 + i : Nat) : Int) := by
 unfold j8 at h
 rw [List.getElem?_map] at h
 by_cases hi : i < q
 ·rw [List.getElem?_range hi] at h
  cases h
  exact ⟨hi, congrArg PyData.int (by omega)⟩
 ·rw [List.getElem?_eq_none (by rw [List.length_range]; omega)] at h
  cases h
theorem NmsG.at0 {M : List Str} (h : NmsG M) : ∃ x, x ∈ M ∧ IsName x ∧ atI (M.map PyData.str) 0 = some (.str x) := by
 cases M with
 | nil => exact absurd rfl h.ne
 | cons a b =>
  refine ⟨a, List.mem_cons_self .., h.nm a (List.mem_cons_self ..), ?_⟩
  have := C7 (xs := (a :: b).map PyData.str) (i := 0) (v := .str a) rfl
  exact this
theorem NmsG.sl1 {M : List Str} {x0 : Str} (hN : NmsG M) (at0 : atI (M.map PyData.str) 0 = some (.str x0)) : gSl (.list (M.map PyData.str)) none (some 1) = some (.own [.str x0]) := by
 have hl1 : 0 < M.length := List.length_pos_iff.mpr hN.ne
 have := b1N (xs := M.map PyData.str) (f := 1)
 rw [List.length_map, Nat.min_eq_left (by omega)] at this
 rw [a2i]
 refine congrArg some (congrArg T.own (this.trans ?_))
 cases q : M with
 | nil => exact absurd q hN.ne
 | cons a b =>
  rw [q] at at0
  have a1 : atI ((a :: b).map PyData.str) 0 = some (.str a) := by
   have := C7 (xs := (a :: b).map PyData.str) (i := 0) (v := .str a) rfl
   exact this
  rw [a1] at at0
  cases at0
  rfl
theorem DeskS.len {M Q : DM} (h : DeskS S M Q) : 3 ≤ S.length := (List.getElem?_eq_some_iff.mp h.q).1
end
end BV
namespace BV
open PySem L2

theorem Q5 {α β : Type} {b : BT1} {body : SS} {S : Sto} (u : α → D) (f : β → α → β) (P : β → En → Prop) : ∀ (xs : List α) (a : β) (ρ : En), P a ρ → (∀ x ∈ xs, ∀ a ρ, P a ρ → ∃ ρ1, b (u x) ρ = some ρ1 ∧ ∃ ρ2, body ρ1 S = .nx ρ2 S ∧ P (f a x) ρ2) →
  ∃ ρ', Y3 b body (xs.map u) ρ S = .nx ρ' S ∧ P (xs.foldl f a) ρ'
 | [], a, ρ, h, _ => ⟨ρ, rfl, h⟩
 | x :: xs, a, ρ, h, st => by
  obtain ⟨ρ1, e1, ρ2, e2, h2⟩ := st x (List.mem_cons_self ..) a ρ h
  obtain ⟨ρ', e3, h3⟩ := Q5 u f P xs (f a x) ρ2 h2 fun y hy => st y (List.mem_cons_of_mem _ hy)
  refine ⟨ρ', ?_, h3⟩
  rw [List.map_cons]
  unfold Y3
  rw [e1]
  simp only [e2]
  exact e3
structure LSt where
 c : Int
 ah : Option (Int × Int)
 m : Int
 l : Int
 deriving DecidableEq
def ahD : Option (Int × Int) → D
 | none => .none
 | some p => c7 p
def a8q (e : LSt) : D := .tuple [.int e.c, ahD e.ah, .int e.m, .int e.l]
abbrev LDc := List ((Int × Int) × LSt)
def kvL (L : LDc) : List (List Int × D) := L.map fun p => (C8 p.1, a8q p.2)
def F6 (L : LDc) (k : Int × Int) : Option LSt := (L.find? fun p => decide (p.1 = k)).map (·.2)
def b06 (L : LDc) (k : Int × Int) (v : LSt) : LDc := if L.any (fun p => decide (p.1 = k)) then L.map (fun p => if p.1 = k then (p.1, v) else p) else L ++ [(k, v)]
theorem pairL_iff {p q : Int × Int} : C8 p = C8 q ↔ p = q := by
 constructor
 ·intro h
  simp only [C8, List.cons.injEq, and_true] at h
  exact Prod.ext h.1 h.2
 ·intro h; rw [h]
theorem a7R (L : LDc) (k : Int × Int) : a8w (kvL L) (C8 k) = (F6 L k).map a8q := by
 unfold a8w F6 kvL
 rw [List.find?_map, Option.map_map, Option.map_map]
 have : ((fun p : List Int × D => decide (p.1 = C8 k)) ∘ fun p : (Int × Int) × LSt => (C8 p.1, a8q p.2)) = fun p => decide (p.1 = k) := by
  funext p
  simp only [Function.comp, pairL_iff]
 rw [this]
 rfl
theorem b3U (L : LDc) (k : Int × Int) (v : LSt) : a58 (kvL L) (C8 k) (a8q v) = kvL (b06 L k v) := by
 unfold a58 b06
 have h1 : (kvL L).any (fun p => decide (p.1 = C8 k)) = L.any fun p => decide (p.1 = k) := by
  unfold kvL
  rw [List.any_map]
  congr 1
  funext p
  simp only [Function.comp, pairL_iff]
 rw [h1]
 split
 ·unfold kvL
  rw [List.map_map, List.map_map]
  refine List.map_congr_left fun p _ => ?_
  simp only [Function.comp]
  by_cases h : p.1 = k
  ·rw [if_pos h, if_pos (by rw [h])]
  ·rw [if_neg h, if_neg (fun z => h (pairL_iff.mp z))]
 ·unfold kvL
  rw [List.map_append]
  rfl
theorem P5 {L : LDc} {k : Int × Int} {e : LSt} (h : F6 L k = some e) : (k, e) ∈ L := by
 unfold F6 at h
 cases q : L.find? fun p => decide (p.1 = k) with
 | none => rw [q] at h; cases h
 | some p =>
  rw [q] at h
  cases h
  have h1 := List.find?_some q
  have h2 : p.1 = k := of_decide_eq_true h1
  rw [← h2]
  exact List.mem_of_find?_eq_some q
theorem a4t {L : LDc} {k : Int × Int} (h : k ∈ L.map (·.1)) : ∃ e, F6 L k = some e := by
 obtain ⟨p, hp, rfl⟩ := List.mem_map.mp h
 unfold F6
 cases q : L.find? fun r => decide (r.1 = p.1) with
 | some r => exact ⟨r.2, rfl⟩
 | none =>
  have := List.find?_eq_none.mp q p hp
  simp at this
theorem a0U (L : LDc) (k k' : Int × Int) (v : LSt) : F6 (b06 L k v) k' = if k' = k then some v else F6 L k' := by
 unfold b06
 by_cases ha : L.any (fun p => decide (p.1 = k)) = true
 ·rw [if_pos ha]
  unfold F6
  rw [List.find?_map]
  have e : ((fun p : (Int × Int) × LSt => decide (p.1 = k')) ∘ fun p => if p.1 = k then (p.1, v) else p) = fun p => decide (p.1 = k') := by
   funext p
   simp only [Function.comp]
   split <;> rfl
  rw [e]
  cases q : L.find? fun p => decide (p.1 = k') with
  | none =>
   rw [if_neg]
   ·rfl
   ·intro hk
    subst hk
    rw [List.any_eq_true] at ha
    obtain ⟨p, hp, e⟩ := ha
    exact List.find?_eq_none.mp q p hp e
  | some p =>
   have hp0 := List.find?_some q
   have hp : p.1 = k' := of_decide_eq_true hp0
   simp only [Option.map_some]
   by_cases hk : k' = k
   ·rw [if_pos hk, if_pos (hp.trans hk)]
   ·rw [if_neg hk, if_neg (fun z => hk (hp.symm.trans z))]
 ·rw [if_neg ha]
  unfold F6
  rw [List.find?_append]
  by_cases hk : k' = k
  ·subst hk
   have : L.find? (fun p => decide (p.1 = k')) = none := by
    rw [List.find?_eq_none]
    intro p hp e
    exact ha (List.any_eq_true.mpr ⟨p, hp, e⟩)
   rw [this, if_pos rfl]
   simp
  ·rw [if_neg hk]
   have : List.find? (fun p : (Int × Int) × LSt => decide (p.1 = k')) [(k, v)] = none := by simp [Ne.symm hk]
   rw [this, Option.or_none]
theorem a35 (L : LDc) (k : Int × Int) (v : LSt) : (b06 L k v).map (·.1) = if k ∈ L.map (·.1) then L.map (·.1) else L.map (·.1) ++ [k] := by
 unfold b06
 have : L.any (fun p => decide (p.1 = k)) = decide (k ∈ L.map (·.1)) := by
  rw [Bool.eq_iff_iff, List.any_eq_true, decide_eq_true_eq, List.mem_map]
  constructor
  ·rintro ⟨p, hp, h⟩; exact ⟨p, hp, of_decide_eq_true h⟩
  ·rintro ⟨p, hp, h⟩; exact ⟨p, hp, decide_eq_true h⟩
 rw [this]
 by_cases h : k ∈ L.map (·.1)
 ·rw [if_pos (decide_eq_true h), if_pos h, List.map_map]
  refine List.map_congr_left fun p _ => ?_
  simp only [Function.comp]
  split <;> rfl
 ·rw [if_neg (by simpa using h), if_neg h, List.map_append]
  rfl
def csD (cs : List Nat) : D := .list (cs.map fun (n : Nat) => PyData.int (n : Int))
def ct (cs : List Nat) (u : Nat) : Int := ((cs[u]?.getD 0 : Nat) : Int)
theorem A7 (cs : List Nat) (u : Nat) : 0 ≤ ct cs u := by unfold ct; omega
theorem b2f {cs : List Nat} {u : Nat} (h : u < cs.length) : gIx (csD cs) (.int (u : Int)) = some (.val (.int (ct cs u))) := by
 unfold csD ct
 rw [E9, C7 (v := .int ((cs[u] : Nat) : Int)) (by rw [List.getElem?_map, List.getElem?_eq_getElem h]; rfl), List.getElem?_eq_getElem h]
 rfl
def wt (s : Int) : Int := if s < 0 then -s else 0
theorem a8p (s : Int) : 0 ≤ wt s := by unfold wt; split <;> omega
def onP (w cu cn s m l : Int) : Option (Int × Int) := if w * m - wt s < 0 then none else some (min (w * m - wt s - (cu - l)) cn, wt s + l)
def onD : Option (Int × Int) → D
 | none => .none
 | some p => c7 p
theorem a5O {S : Sto} {w u : Nat} {cs : List Nat} {s m l : Int} (hu : u + 1 < cs.length) (hw : w ≤ 100) (hm0 : 0 ≤ m) (hm : m ≤ 100) :
  J3 [.val (.int (w : Int)), .val (csD cs), .val (.int (u : Int)), .val (.int s), .val (.int m), .val (.int l)] S = .ok (.val (onD (onP (w : Int) (ct cs u) (ct cs (u + 1)) s m l))) S := by
 have mu : E2 (.int (w : Int)) (.int m) = some (.val (.int ((w : Int) * m))) := Z8 (Q8 (by omega) (by omega)) (Q8 (by omega) (by omega))
 have i1 := b2f (cs := cs) (u := u) (by omega)
 have i2 := b2f (cs := cs) (u := u + 1) (by omega)
 have c0 := A7 cs (u + 1)
 have ew : (u : Int) + 1 = ((u + 1 : Nat) : Int) := by omega
 unfold J3
 refine E1 ?_
 unfold a23
 generalize csD cs = C at *
 refine b8 (by simp; exact ⟨rfl, rfl⟩) ?_
 refine b8 (by simp [mu]; exact ⟨rfl, rfl⟩) ?_
 refine b8 (by simp [i1]; exact ⟨rfl, rfl⟩) ?_
 rw [show (if s < 0 then -s else 0) = wt s from rfl]
 unfold onP
 by_cases h1 : (w : Int) * m - wt s < 0
 ·rw [if_pos h1]
  simp [h1, onD]
 ·rw [if_neg h1]
  refine b8 (by simp [h1]; exact ⟨rfl, rfl⟩) ?_
  by_cases h2 : (w : Int) * m - wt s < ct cs u - l
  ·have e : min ((w : Int) * m - wt s - (ct cs u - l)) (ct cs (u + 1)) = (w : Int) * m - wt s - (ct cs u - l) := by omega
   rw [e]
   simp [h2, onD, c7]
  ·refine b8 (by simp [h2]; exact ⟨rfl, rfl⟩) ?_
   have e : (if ct cs (u + 1) < (w : Int) * m - wt s - (ct cs u - l) then ct cs (u + 1) else (w : Int) * m - wt s - (ct cs u - l)) = min ((w : Int) * m - wt s - (ct cs u - l)) (ct cs (u + 1)) := by
    split <;> omega
   simp only [← e]
   rw [← ew] at i2
   simp [i2, onD, c7]
def O5 (w cu cn s : Int) : Int := (wt s + cu + cn + w - 1) / w
theorem b2U {S : Sto} {w u : Nat} {cs : List Nat} {s : Int} (hu : u + 1 < cs.length) (hw : w ≤ 100) (hw1 : 1 ≤ w) :
  B9 [.val (.int (w : Int)), .val (csD cs), .val (.int (u : Int)), .val (.int s)] S = .ok (.val (.int (O5 (w : Int) (ct cs u) (ct cs (u + 1)) s))) S := by
 have i1 := b2f (cs := cs) (u := u) (by omega)
 have i2 := b2f (cs := cs) (u := u + 1) (by omega)
 rw [show ((u + 1 : Nat) : Int) = (u : Int) + 1 by omega] at i2
 have dv : a4z (.int (wt s + ct cs u + ct cs (u + 1) + (w : Int) - 1)) (.int (w : Int)) = some (.val (.int ((wt s + ct cs u + ct cs (u + 1) + (w : Int) - 1) / (w : Int)))) := R6 (by omega) (by
  have : (w : Int).natAbs.log2 ≤ 6 := O4 (by omega)
  omega)
 unfold B9
 refine E1 ?_
 unfold U0 O5
 generalize csD cs = C at *
 refine b8 (by simp [i1, i2]; exact ⟨rfl, rfl⟩) ?_
 rw [show (if s < 0 then -s else 0) = wt s from rfl]
 simp [dv]
end BV
namespace BV
open PySem L2
section
variable {S : Sto} {hx : K5}
end
end BV
namespace BV
open PySem L2
end BV
namespace BV
open PySem L2
section
variable {S : Sto} {w h : Nat}
end
section
variable {S : Sto} {w h : Nat} {units : List Int} {rows : List (List e9)}
end
end BV
namespace BV
open PySem L2
section
variable {w h : Nat} {rows : List (List e9)} {ds : List D}
end
end BV
namespace BV
open PySem L2
section
variable {S : Sto} {w h : Nat} {units : List Int} {rows : List (List e9)} {ds : List D} {s l f m : Int}
theorem b6x {α : Type} (D0 : List α) (x : α) : ixN (D0 ++ [x]).length (-1) = some D0.length := by
 unfold L2.ixN
 rw [if_neg (by decide), if_pos (by simp; omega)]
 simp
 omega
end
end BV
namespace BV
open PySem PySem.Spec PyProof.Rows L2
def IsL (t : T) (ws : List Str) : Prop := t = .own (ws.map PyData.str) ∨ t = .val (.list (ws.map PyData.str))
theorem IsL.d {t : T} {ws : List Str} (h : IsL t ws) : asD t = some (.list (ws.map PyData.str)) := by
 rcases h with rfl | rfl <;> rfl
theorem IsL.rof {t : T} {ws : List Str} (h : IsL t ws) : a59 t = false := by
 rcases h with rfl | rfl <;> rfl
section
variable {S : Sto} {ρ : En} {i n m : Nat} {M : List Str}
end
end BV
namespace BV
open PySem PySem.Spec PyProof.Rows L2
section
variable {S : Sto} {M M' : DM} {n c : Nat} {row : Str} {r : DeedM} {t : Str} {J' : JobM} {ps' : List a2T}
end
end BV
namespace BV
open PySem PySem.Spec PyProof.Rows L2
section
variable {S : Sto} {M : DM} {n : Nat}
end
end BV
namespace BV
open PySem PySem.Spec PyProof.Rows L2
section
variable {J : JobM} {ps : List a2T} {S : Sto} {n : Nat} {M : DM}
end
end BV
namespace BV
open PySem PySem.Spec PyProof.Rows L2
theorem a6w {n : Nat} (h : n ≤ 100000) : a3p [.int 1, .int ((n : Int) + 1)] = some (j8 1 n) := by
 have h1 : ((n : Int) + 1 - 1).toNat = n := by omega
 show (if ((n : Int) + 1 - 1).toNat ≤ sizeLine ∧ B0 1 = true ∧ B0 ((n : Int) + 1) = true then some (j8 1 ((n : Int) + 1 - 1).toNat) else none) = _
 rw [h1, if_pos ⟨y0 h, by decide, a0W (by omega) (by omega)⟩]
section
variable {units : List Int} {rows : List (List e9)} {s l f m : Int} {xs : List Str} {S : Sto} {w h : Nat}
end
section
variable {J : JobM} {M : DM} {S : Sto} {n : Nat} {ws xs : List Str} {ρ : En} {i : Nat}
end
end BV
namespace BV
open PySem L2

structure Box (h N : Int) (k : Int × Int) : Prop where
 r0 : 0 ≤ k.1
 r1 : k.1 ≤ h
 s0 : -N ≤ k.2
 s1 : k.2 ≤ N
structure LOk (h N : Int) (L : LDc) : Prop where
 nd : (L.map (·.1)).Nodup
 box : ∀ k ∈ L.map (·.1), Box h N k
def boxL : List (Int × Int) := (List.range 16).flatMap fun (r : Nat) => (List.range 121).map fun (s : Nat) => ((r : Int), (s : Int) - 60)
theorem b3R : boxL.length = 1936 := by decide +kernel
theorem b4z {h N : Int} {k : Int × Int} (hh : h ≤ 15) (hN : N ≤ 60) (b : Box h N k) : k ∈ boxL := by
 obtain ⟨b1, b2, b3, b4⟩ := b
 unfold boxL
 rw [List.mem_flatMap]
 refine ⟨k.1.toNat, List.mem_range.mpr (by omega), List.mem_map.mpr ⟨(k.2 + 60).toNat, List.mem_range.mpr (by omega), ?_⟩⟩
 exact Prod.ext (by show ((k.1.toNat : Nat) : Int) = k.1; omega) (by show (((k.2 + 60).toNat : Nat) : Int) - 60 = k.2; omega)
theorem LOk.len {h N : Int} {L : LDc} (l : LOk h N L) (hh : h ≤ 15) (hN : N ≤ 60) : L.length ≤ 1936 := by
 have := a0v l.nd (m := boxL) fun k hk => b4z hh hN (l.box k hk)
 rw [b3R, List.length_map] at this
 exact this
theorem LOk.nil {h N : Int} : LOk h N [] := ⟨List.nodup_nil, fun _ h => nomatch h⟩
theorem LOk.put {h N : Int} {L : LDc} (l : LOk h N L) {k : Int × Int} {v : LSt} (b : Box h N k) : LOk h N (b06 L k v) := by
 constructor
 ·rw [a35]
  split
  ·exact l.nd
  ·rename_i hk
   rw [List.nodup_append]
   exact ⟨l.nd, by simp, fun a ha b' hb => by rw [List.mem_singleton.mp hb]; exact fun z => hk (z ▸ ha)⟩
 ·intro k' hk'
  rw [a35] at hk'
  split at hk'
  ·exact l.box k' hk'
  ·rw [List.mem_append, List.mem_singleton] at hk'
   rcases hk' with h | rfl
   ·exact l.box k' h
   ·exact b
def a4y (o : Option LSt) (c : Int) : Bool := match o with
 | none => true
 | some e => decide (c < e.c)
def b3m (w cu cn : Int) (prev : LDc) (st : Int × Int) (L : LDc) (m l : Int) : LDc := match onP w cu cn st.2 m l with
 | none => L
 | some p => if a4y (F6 L (st.1 + m, p.1)) ((((F6 prev st).map (·.c)).getD 0) + p.2) then b06 L (st.1 + m, p.1) ⟨(((F6 prev st).map (·.c)).getD 0) + p.2, some st, m, l⟩ else L
def LD (L : LDc) : D := .dict (mkD true (kvT (kvL L)))
theorem a2O {L : LDc} {k : Int × Int} {e : LSt} (h : F6 L k = some e) : b1k (LD L) (c7 k) = some (.val (a8q e)) := by
 have h1 := a3q (kvL L) (C8 k)
 rw [a7R, h] at h1
 have hu : (unD (mkD true (kvT (kvL L)))).1 = true := rfl
 show (if (unD (mkD true (kvT (kvL L)))).1 = true then (a0r (mkD true (kvT (kvL L))) (c7 k)).bind (fun o => o.map T.val) else none) = _
 rw [if_pos hu, show c7 k = .tuple ((C8 k).map PyData.int) from rfl, h1]
 rfl
theorem b9f {neg : Bool} {L : LDc} {k : Int × Int} : gIn neg (c7 k) (LD L) = some (.val (.bool (if neg then !(F6 L k).isSome else (F6 L k).isSome))) := by
 have h1 := a3q (kvL L) (C8 k)
 rw [a7R] at h1
 show ((a0r (mkD true (kvT (kvL L))) (c7 k)).map fun o => T.val (.bool (if neg then !o.isSome else o.isSome))) = _
 rw [show c7 k = .tuple ((C8 k).map PyData.int) from rfl, h1, Option.map_some, Option.isSome_map]
theorem b5H {L : LDc} {k : Int × Int} {v : LSt} (h : L.length < 100000) : a5G true (kvT (kvL L)) (c7 k) (a8q v) = some (kvT (kvL (b06 L k v))) := by
 have := a73 (l := kvL L) (k := C8 k) (v := a8q v) (by unfold kvL; rw [List.length_map, sizeLine_eq]; omega)
 rw [b3U] at this
 exact this
theorem b3a {L : LDc} (h : L.length ≤ 10000) : a0s [LD L] = some (.own ((b3f (L.map (·.1))).map c7)) := by
 have hp : P0 (kvT (kvL L)) = some (L.map (·.1)) := by
  clear h
  induction L with
  | nil => rfl
  | cons p L ih =>
   show (P0 (kvT (kvL L))).map _ = _
   rw [ih]
   rfl
 show (if (unD (mkD true (kvT (kvL L)))).1 = true then (match P0 (unD (mkD true (kvT (kvL L)))).2 with
  | some ps => if ps.length ≤ 10000 then some (T.own ((b3f ps).map c7)) else none
  | none => none) else none) = _
 have e1 : (unD (mkD true (kvT (kvL L)))) = (true, kvT (kvL L)) := rfl
 rw [e1, if_pos rfl]
 simp only
 rw [hp]
 simp only
 rw [if_pos (by rw [List.length_map]; exact h)]
theorem a7b {A : List D} {x : D} : gIx (.list (A ++ [x])) (.int (-1)) = some (.val x) := by
 rw [E9]
 unfold L2.atI
 rw [b6x]
 simp
def a2C (w h : Nat) (cs : List Nat) (A : List LDc) (u : Nat) (f : Option T) (y7 y8 y9 y10 y11 y12 y13 y14 : Option T) : En :=
 [some (.val (c7 ((w : Int), (h : Int)))), some (.val (csD cs)), some (.val (.int (w : Int))), some (.val (.int (h : Int))), some (.own (A.map LD)), some (.val (.int (u : Int))), f, y7, y8, y9, y10, y11, y12, y13, y14]
def ldT (L : LDc) : T := .ownd true (kvT (kvL L))
section
variable {S : Sto} {w h u : Nat} {cs : List Nat} {A : List LDc} {prev : LDc} {N : Int}
theorem b6r {cu cn s m l a b : Int} {w : Int} (e : onP w cu cn s m l = some (a, b)) (h0 : 0 ≤ cu) (h1 : cu ≤ N) (h2 : 0 ≤ cn) (h3 : cn ≤ N) (l0 : 0 ≤ l) : -N ≤ a ∧ a ≤ N := by
 unfold onP at e
 split at e
 ·cases e
 ·injection e with e
  injection e with e1 e2
  omega
theorem b4o (hu : u + 1 < cs.length) (hw : w ≤ 100) {st : Int × Int} {e0 : LSt} (hp : F6 prev st = some e0) {m l : Nat} (hm : m ≤ 100) {L : LDc} (hl : L.length < 100000) {y12 y13 y14 : Option T} :
  ∃ z12 z13 z14, V1 (a2C w h cs (A ++ [prev]) u (some (ldT L)) (some (.val (c7 st))) (some (.val (.int st.1))) (some (.val (.int st.2))) (some (.val (.int (m : Int)))) (some (.val (.int (l : Int)))) y12 y13 y14) S =
   .nx (a2C w h cs (A ++ [prev]) u (some (ldT (b3m (w : Int) (ct cs u) (ct cs (u + 1)) prev st L (m : Int) (l : Int)))) (some (.val (c7 st))) (some (.val (.int st.1))) (some (.val (.int st.2))) (some (.val (.int (m : Int)))) (some (.val (.int (l : Int)))) z12 z13 z14) S := by
 have on := a5O (S := S) (s := st.2) (l := (l : Int)) hu hw (by omega : (0 : Int) ≤ (m : Int)) (by omega)
 have pr : gIx (.list ((A ++ [prev]).map LD)) (.int (-1)) = some (.val (LD prev)) := by rw [List.map_append]; exact a7b
 have tx := a2O hp
 unfold V1 b3m a2C ldT
 rw [hp]
 simp only [Option.map_some, Option.getD_some]
 generalize (A ++ [prev]).map LD = AD at *
 cases eo : onP (w : Int) (ct cs u) (ct cs (u + 1)) st.2 (m : Int) (l : Int) with
 | none =>
  rw [eo] at on
  refine ⟨some (.val .none), y13, y14, ?_⟩
  refine b8 (by simp [on]; exact ⟨rfl, rfl⟩) ?_
  simp [onD]
 | some p =>
  rw [eo] at on
  have e1 : a8q e0 = .tuple [.int e0.c, ahD e0.ah, .int e0.m, .int e0.l] := rfl
  have i0 : gIx (a8q e0) (.int 0) = some (.val (.int e0.c)) := by rw [e1]; rfl
  have q0 : gIx (c7 p) (.int 0) = some (.val (.int p.1)) := rfl
  have q1 : gIx (c7 p) (.int 1) = some (.val (.int p.2)) := rfl
  have k0 : PyData.tuple [.int (st.1 + (m : Int)), .int p.1] = c7 (st.1 + (m : Int), p.1) := rfl
  have nn : isNone (c7 p) = false := rfl
  have gi := b9f (neg := true) (L := L) (k := (st.1 + (m : Int), p.1))
  have ds := b5H (L := L) (k := (st.1 + (m : Int), p.1)) (v := ⟨e0.c + p.2, some st, (m : Int), (l : Int)⟩) hl
  have v0 : PyData.tuple [.int (e0.c + p.2), c7 st, .int (m : Int), .int (l : Int)] = a8q ⟨e0.c + p.2, some st, (m : Int), (l : Int)⟩ := rfl
  have dl : PyData.dict (mkD true (kvT (kvL L))) = LD L := rfl
  refine ⟨some (.val (c7 p)), some (.val (c7 (st.1 + (m : Int), p.1))), some (.val (.int (e0.c + p.2))), ?_⟩
  refine b8 (by simp [on]; exact ⟨rfl, rfl⟩) ?_
  refine b0n (S1 := S) (by simp [nn, onD]) ?_
  refine b8 (by simp [onD, q0, k0]; exact ⟨rfl, rfl⟩) ?_
  refine b8 (by simp [onD, pr, tx, i0, q1]; exact ⟨rfl, rfl⟩) ?_
  have sc : (bOr (cB (d5 (gIn true) (b7 13) (b7 6))) (cB (d5 gLt (b7 14) (d5 gIx (d5 b1k (b7 6) (b7 13)) (cC (.int 0))))))
   [some (.val (c7 ((w : Int), (h : Int)))), some (.val (csD cs)), some (.val (.int (w : Int))), some (.val (.int (h : Int))), some (.own AD), some (.val (.int (u : Int))), some (.ownd true (kvT (kvL L))), some (.val (c7 st)), some (.val (.int st.1)), some (.val (.int st.2)), some (.val (.int (m : Int))), some (.val (.int (l : Int))), some (.val (c7 p)), some (.val (c7 (st.1 + (m : Int), p.1))), some (.val (.int (e0.c + p.2)))] S = .ok (a4y (F6 L (st.1 + (m : Int), p.1)) (e0.c + p.2)) S := by
   cases eg : F6 L (st.1 + (m : Int), p.1) with
   | none =>
    rw [eg] at gi
    simp [dl, gi, a4y]
   | some e =>
    rw [eg] at gi
    have tl := a2O eg
    have il : gIx (a8q e) (.int 0) = some (.val (.int e.c)) := rfl
    simp [dl, gi, a4y, tl, il]
  cases hb : a4y (F6 L (st.1 + (m : Int), p.1)) (e0.c + p.2) with
  | false =>
   rw [hb] at sc
   refine Z6 sc ?_
   simp [hb]
  | true =>
   rw [hb] at sc
   refine b0n sc ?_
   simp [hb, v0, ds]
def U7 (cu s : Int) : Nat := (min cu (max 0 s)).toNat + 1
def a4f (w h cu cn : Int) (st : Int × Int) : Nat := (min (h - st.1) (O5 w cu cn st.2)).toNat + 1
def Z5 (w cu cn : Int) (prev : LDc) (st : Int × Int) (L : LDc) (m : Nat) : LDc := (List.range (U7 cu st.2)).foldl (fun L (l : Nat) => b3m w cu cn prev st L (m : Int) (l : Int)) L
def a0b (w h cu cn : Int) (prev : LDc) (L : LDc) (st : Int × Int) : LDc := (List.range (a4f w h cu cn st)).foldl (Z5 w cu cn prev st) L
def N2 (w h cu cn : Int) (prev : LDc) : LDc := (b3f (prev.map (·.1))).foldl (a0b w h cu cn prev) []
theorem b6Z {w h cu cn : Int} (h0 : 0 ≤ cu) (h1 : cu ≤ N) (h2 : 0 ≤ cn) (h3 : cn ≤ N) {st : Int × Int} (b : Box h N st) {m l : Int} (m0 : 0 ≤ m) (hm : st.1 + m ≤ h) (l0 : 0 ≤ l) {L : LDc} (k : LOk h N L) : LOk h N (b3m w cu cn prev st L m l) := by
 unfold b3m
 split
 ·exact k
 ·rename_i p e
  obtain ⟨e1, e2⟩ := b6r (a := p.1) (b := p.2) e h0 h1 h2 h3 l0
  have r0 := b.r0
  split
  ·exact k.put ⟨by show 0 ≤ st.1 + m; omega, hm, e1, e2⟩
  ·exact k
theorem b1E {n : Nat} (hn : n ≤ 100000) {x : Int} (e : x = (n : Int)) : N6 [.int x] = some ((List.range n).map fun (i : Nat) => PyData.int (i : Int)) := by
 rw [e, a0a (y0 hn), a6M]
theorem b2M (hu : u + 1 < cs.length) (hw : w ≤ 100) (hh : h ≤ 15) (hN : N ≤ 60) (hcs : ∀ u, ct cs u ≤ N) {st : Int × Int} (bx : Box (h : Int) N st) {e0 : LSt} (hp : F6 prev st = some e0) {m : Nat} (hm : st.1 + (m : Int) ≤ (h : Int)) {L : LDc} (k : LOk (h : Int) N L) {y11 y12 y13 y14 : Option T} :
  ∃ z11 z12 z13 z14, V8 (a2C w h cs (A ++ [prev]) u (some (ldT L)) (some (.val (c7 st))) (some (.val (.int st.1))) (some (.val (.int st.2))) (some (.val (.int (m : Int)))) y11 y12 y13 y14) S =
   .nx (a2C w h cs (A ++ [prev]) u (some (ldT (Z5 (w : Int) (ct cs u) (ct cs (u + 1)) prev st L m))) (some (.val (c7 st))) (some (.val (.int st.1))) (some (.val (.int st.2))) (some (.val (.int (m : Int)))) z11 z12 z13 z14) S ∧ LOk (h : Int) N (Z5 (w : Int) (ct cs u) (ct cs (u + 1)) prev st L m) := by
 have hm1 : m ≤ 15 := by have := bx.r0; omega
 have cu0 := A7 cs u
 have cu1 := hcs u
 have i1 := b2f (cs := cs) (u := u) (by omega)
 obtain ⟨ρ', e, kk, z11, z12, z13, z14, rfl⟩ := Q5 (b := f8 11) (body := V1) (S := S) (fun (i : Nat) => PyData.int (i : Int)) (fun L (l : Nat) => b3m (w : Int) (ct cs u) (ct cs (u + 1)) prev st L (m : Int) (l : Int))
  (fun L ρ => LOk (h : Int) N L ∧ ∃ y11 y12 y13 y14, ρ = a2C w h cs (A ++ [prev]) u (some (ldT L)) (some (.val (c7 st))) (some (.val (.int st.1))) (some (.val (.int st.2))) (some (.val (.int (m : Int)))) y11 y12 y13 y14)
  (List.range (U7 (ct cs u) st.2)) L _ ⟨k, y11, y12, y13, y14, rfl⟩ (by
   rintro l hl L' ρ ⟨k', y11, y12, y13, y14, rfl⟩
   obtain ⟨z12, z13, z14, e⟩ := b4o (S := S) (w := w) (h := h) (A := A) hu hw hp (m := m) (l := l) (by omega) (L := L') (by have := k'.len (by omega) hN; omega) (y12 := y12) (y13 := y13) (y14 := y14)
   exact ⟨_, rfl, _, e, b6Z cu0 cu1 (A7 cs _) (hcs _) bx (by omega) hm (by omega) k', _, z12, z13, z14, rfl⟩)
 refine ⟨z11, z12, z13, z14, ?_, kk⟩
 have mx : (if st.2 > 0 then st.2 else 0) = max 0 st.2 := by split <;> omega
 have gr : N6 [.int ((if (if st.2 > 0 then st.2 else 0) < ct cs u then (if st.2 > 0 then st.2 else 0) else ct cs u) + 1)] = some ((List.range (U7 (ct cs u) st.2)).map fun (i : Nat) => PyData.int (i : Int)) := by
  refine b1E (by unfold U7; omega) ?_
  rw [mx]
  unfold U7
  split <;> omega
 unfold V8 Z5
 rw [← e]
 unfold a2C at *
 generalize csD cs = C at *
 generalize (A ++ [prev]).map LD = AD at *
 simp [i1, gr]
theorem b2Q (hu : u + 1 < cs.length) (hw : w ≤ 100) (hw1 : 1 ≤ w) (hh : h ≤ 15) (hN : N ≤ 60) (hcs : ∀ u, ct cs u ≤ N) {st : Int × Int} (bx : Box (h : Int) N st) {e0 : LSt} (hp : F6 prev st = some e0) {L : LDc} (k : LOk (h : Int) N L) {y8 y9 y10 y11 y12 y13 y14 : Option T} :
  ∃ z8 z9 z10 z11 z12 z13 z14, W3 (a2C w h cs (A ++ [prev]) u (some (ldT L)) (some (.val (c7 st))) y8 y9 y10 y11 y12 y13 y14) S =
   .nx (a2C w h cs (A ++ [prev]) u (some (ldT (a0b (w : Int) (h : Int) (ct cs u) (ct cs (u + 1)) prev L st))) (some (.val (c7 st))) z8 z9 z10 z11 z12 z13 z14) S ∧ LOk (h : Int) N (a0b (w : Int) (h : Int) (ct cs u) (ct cs (u + 1)) prev L st) := by
 have cu0 := A7 cs u
 have cu1 := hcs u
 have cn0 := A7 cs (u + 1)
 have cn1 := hcs (u + 1)
 have ms := b2U (S := S) (s := st.2) hu hw hw1
 have mp0 : 0 ≤ O5 (w : Int) (ct cs u) (ct cs (u + 1)) st.2 := by
  unfold O5
  have := a8p st.2
  exact Int.ediv_nonneg (by omega) (by omega)
 have b0 := bx.r0
 have b1 := bx.r1
 obtain ⟨ρ', e, kk, z10, z11, z12, z13, z14, rfl⟩ := Q5 (b := f8 10) (body := V8) (S := S) (fun (i : Nat) => PyData.int (i : Int)) (Z5 (w : Int) (ct cs u) (ct cs (u + 1)) prev st)
  (fun L ρ => LOk (h : Int) N L ∧ ∃ y10 y11 y12 y13 y14, ρ = a2C w h cs (A ++ [prev]) u (some (ldT L)) (some (.val (c7 st))) (some (.val (.int st.1))) (some (.val (.int st.2))) y10 y11 y12 y13 y14)
  (List.range (a4f (w : Int) (h : Int) (ct cs u) (ct cs (u + 1)) st)) L _ ⟨k, y10, y11, y12, y13, y14, rfl⟩ (by
   rintro m hm L' ρ ⟨k', y10, y11, y12, y13, y14, rfl⟩
   rw [List.mem_range] at hm
   obtain ⟨z11, z12, z13, z14, e, k2⟩ := b2M (S := S) (A := A) hu hw hh hN hcs bx hp (m := m) (by unfold a4f at hm; omega) (L := L') k' (y11 := y11) (y12 := y12) (y13 := y13) (y14 := y14)
   exact ⟨_, rfl, _, e, k2, _, z11, z12, z13, z14, rfl⟩)
 refine ⟨some (.val (.int st.1)), some (.val (.int st.2)), z10, z11, z12, z13, z14, ?_, kk⟩
 have gr : N6 [.int ((if O5 (w : Int) (ct cs u) (ct cs (u + 1)) st.2 < (h : Int) - st.1 then O5 (w : Int) (ct cs u) (ct cs (u + 1)) st.2 else (h : Int) - st.1) + 1)] = some ((List.range (a4f (w : Int) (h : Int) (ct cs u) (ct cs (u + 1)) st)).map fun (i : Nat) => PyData.int (i : Int)) := by
  refine b1E (by unfold a4f; omega) ?_
  unfold a4f
  split <;> omega
 unfold W3 a0b
 unfold a2C at *
 generalize csD cs = C at *
 generalize (A ++ [prev]).map LD = AD at *
 refine b8 (ρ1 := [some (.val (c7 ((w : Int), (h : Int)))), some (.val C), some (.val (.int (w : Int))), some (.val (.int (h : Int))), some (.own AD), some (.val (.int (u : Int))), some (ldT L), some (.val (c7 st)), some (.val (.int st.1)), some (.val (.int st.2)), y10, y11, y12, y13, y14]) (S1 := S) (by simp [c7]) ?_
 rw [← e]
 simp [ms, gr]
theorem b4m (hu : u + 1 < cs.length) (hw : w ≤ 100) (hw1 : 1 ≤ w) (hh : h ≤ 15) (hN : N ≤ 60) (hcs : ∀ u, ct cs u ≤ N) (kp : LOk (h : Int) N prev) (hA : A.length ≤ 1000) {y6 y7 y8 y9 y10 y11 y12 y13 y14 : Option T} :
  ∃ z6 z7 z8 z9 z10 z11 z12 z13 z14, W9 (a2C w h cs (A ++ [prev]) u y6 y7 y8 y9 y10 y11 y12 y13 y14) S =
   .nx (a2C w h cs (A ++ [prev] ++ [N2 (w : Int) (h : Int) (ct cs u) (ct cs (u + 1)) prev]) u z6 z7 z8 z9 z10 z11 z12 z13 z14) S ∧ LOk (h : Int) N (N2 (w : Int) (h : Int) (ct cs u) (ct cs (u + 1)) prev) := by
 obtain ⟨ρ', e, kk, z7, z8, z9, z10, z11, z12, z13, z14, rfl⟩ := Q5 (b := f8 7) (body := W3) (S := S) c7 (a0b (w : Int) (h : Int) (ct cs u) (ct cs (u + 1)) prev)
  (fun L ρ => LOk (h : Int) N L ∧ ∃ y7 y8 y9 y10 y11 y12 y13 y14, ρ = a2C w h cs (A ++ [prev]) u (some (ldT L)) y7 y8 y9 y10 y11 y12 y13 y14)
  (b3f (prev.map (·.1))) [] (a2C w h cs (A ++ [prev]) u (some (ldT [])) y7 y8 y9 y10 y11 y12 y13 y14) ⟨LOk.nil, y7, y8, y9, y10, y11, y12, y13, y14, rfl⟩ (by
   rintro st hst L' ρ ⟨k', y7, y8, y9, y10, y11, y12, y13, y14, rfl⟩
   have hst' : st ∈ prev.map (·.1) := sortB_mem.mp hst
   obtain ⟨e0, he0⟩ := a4t hst'
   obtain ⟨z8, z9, z10, z11, z12, z13, z14, e, k2⟩ := b2Q (S := S) (A := A) hu hw hw1 hh hN hcs (kp.box st hst') he0 (L := L') k' (y8 := y8) (y9 := y9) (y10 := y10) (y11 := y11) (y12 := y12) (y13 := y13) (y14 := y14)
   exact ⟨_, rfl, _, e, k2, _, z8, z9, z10, z11, z12, z13, z14, rfl⟩)
 refine ⟨some (.val (LD (N2 (w : Int) (h : Int) (ct cs u) (ct cs (u + 1)) prev))), z7, z8, z9, z10, z11, z12, z13, z14, ?_, kk⟩
 have pr : gIx (.list ((A ++ [prev]).map LD)) (.int (-1)) = some (.val (LD prev)) := by rw [List.map_append]; exact a7b
 have sr := b3a (L := prev) (by have := kp.len (by omega) hN; omega)
 have ap : w5 ((A ++ [prev]).map LD) [LD (N2 (w : Int) (h : Int) (ct cs u) (ct cs (u + 1)) prev)] = some ((A ++ [prev] ++ [N2 (w : Int) (h : Int) (ct cs u) (ct cs (u + 1)) prev]).map LD, .none) := Y0 LD (by rw [List.length_append]; simp; omega)
 unfold W9
 refine b8 (ρ1 := a2C w h cs (A ++ [prev]) u (some (ldT [])) y7 y8 y9 y10 y11 y12 y13 y14) (S1 := S) rfl ?_
 refine b8 (ρ1 := a2C w h cs (A ++ [prev]) u (some (ldT (N2 (w : Int) (h : Int) (ct cs u) (ct cs (u + 1)) prev))) z7 z8 z9 z10 z11 z12 z13 z14) (S1 := S) (by
  unfold N2
  rw [← e]
  unfold a2C
  generalize csD cs = C at *
  generalize (A ++ [prev]).map LD = AD at *
  simp [pr, sr]) ?_
 have dl : PyData.dict (mkD true (kvT (kvL (N2 (w : Int) (h : Int) (ct cs u) (ct cs (u + 1)) prev)))) = LD (N2 (w : Int) (h : Int) (ct cs u) (ct cs (u + 1)) prev) := rfl
 unfold a2C ldT
 generalize csD cs = C at *
 generalize (A ++ [prev] ++ [N2 (w : Int) (h : Int) (ct cs u) (ct cs (u + 1)) prev]).map LD = BD at *
 generalize (A ++ [prev]).map LD = AD at *
 simp [dl, ap]
def i8 (w h : Nat) (cs : List Nat) : Nat → LDc
 | 0 => [((0, 0), ⟨0, none, 0, 0⟩)]
 | u + 1 => N2 (w : Int) (h : Int) (ct cs (u + 1)) (ct cs (u + 2)) (i8 w h cs u)
def m6 (w h : Nat) (cs : List Nat) (n : Nat) : List LDc := (List.range n).map (i8 w h cs)
theorem R9 (n : Nat) : m6 w h cs (n + 1) = m6 w h cs n ++ [i8 w h cs n] := by
 unfold m6
 rw [List.range_succ, List.map_append]
 rfl
theorem c4T (h0 : (0 : Int) ≤ N) : LOk (h : Int) N (i8 w h cs 0) := ⟨by simp [i8], fun k hk => by
 have : k = (0, 0) := by simpa [i8] using hk
 subst this
 exact ⟨Int.le_refl _, by show (0 : Int) ≤ (h : Int); omega, by show -N ≤ (0 : Int); omega, h0⟩⟩
theorem a0P (hl : cs.length = 32) (hw : w ≤ 100) (hw1 : 1 ≤ w) (hh : h ≤ 15) (hN : N ≤ 60) (hcs : ∀ u, ct cs u ≤ N) :
  F5 [.val (c7 ((w : Int), (h : Int))), .val (csD cs)] S = .ok (.own ((m6 w h cs 31).map LD)) S ∧ ∀ u, u ≤ 30 → LOk (h : Int) N (i8 w h cs u) := by
 have N0 : 0 ≤ N := by have := hcs 0; have := A7 cs 0; omega
 have fin := D7 (b := f8 5) (body := W9) (fun i ρ S' => S' = S ∧ (∀ u, u ≤ i → LOk (h : Int) N (i8 w h cs u)) ∧ ∃ z5 z6 z7 z8 z9 z10 z11 z12 z13 z14, ρ =
   [some (.val (c7 ((w : Int), (h : Int)))), some (.val (csD cs)), some (.val (.int (w : Int))), some (.val (.int (h : Int))), some (.own ((m6 w h cs (i + 1)).map LD)), z5, z6, z7, z8, z9, z10, z11, z12, z13, z14])
  (j8 1 30) 0 [some (.val (c7 ((w : Int), (h : Int)))), some (.val (csD cs)), some (.val (.int (w : Int))), some (.val (.int (h : Int))), some (.own ((m6 w h cs 1).map LD)), none, none, none, none, none, none, none, none, none, none] S
  ⟨rfl, fun u hu => by rw [show u = 0 by omega]; exact c4T N0, none, none, none, none, none, none, none, none, none, none, rfl⟩ (by
   rintro i d ρ S' hd ⟨rfl, k, z5, z6, z7, z8, z9, z10, z11, z12, z13, z14, rfl⟩
   rw [Nat.zero_add] at k
   obtain ⟨hi, rfl⟩ := T7 hd
   have es : (m6 w h cs i).length = i := by unfold m6; simp
   obtain ⟨x6, x7, x8, x9, x10, x11, x12, x13, x14, e2, k2⟩ := b4m (S := S') (w := w) (h := h) (u := i + 1) (cs := cs) (A := m6 w h cs i) (prev := i8 w h cs i) (by omega) hw hw1 hh hN hcs (k i (by omega)) (by omega) (y6 := z6) (y7 := z7) (y8 := z8) (y9 := z9) (y10 := z10) (y11 := z11) (y12 := z12) (y13 := z13) (y14 := z14)
   refine ⟨_, rfl, _, S', .inl ?_, rfl, fun u hu => ?_, some (.val (.int ((i + 1 : Nat) : Int))), x6, x7, x8, x9, x10, x11, x12, x13, x14, rfl⟩
   ·rw [Nat.zero_add, R9 (i + 1), R9 i, Nat.add_comm 1 i]
    exact e2
   ·by_cases q : u = i + 1
    ·rw [q]; exact k2
    ·exact k u (by omega))
 obtain ⟨ρ', S', e, rfl, k, z5, z6, z7, z8, z9, z10, z11, z12, z13, z14, rfl⟩ := fin
 rw [Nat.zero_add, E4] at k
 refine ⟨?_, k⟩
 rw [Nat.zero_add, E4] at e
 have gr : a3p [.int 1, .int 31] = some (j8 1 30) := a6w (n := 30) (by omega)
 have d0 : a5G true (kvT (kvL [])) (c7 (0, 0)) (a8q ⟨0, none, 0, 0⟩) = some (kvT (kvL (b06 [] (0, 0) ⟨0, none, 0, 0⟩))) := b5H (by decide)
 have d1 : a5G true [] (.tuple [.int 0, .int 0]) (.tuple [.int 0, .none, .int 0, .int 0]) = some (kvT (kvL (b06 [] (0, 0) ⟨0, none, 0, 0⟩))) := d0
 have s1 : [PyData.dict (mkD true (kvT (kvL (b06 [] (0, 0) ⟨0, none, 0, 0⟩))))] = (m6 w h cs 1).map LD := rfl
 unfold F5
 refine E1 ?_
 unfold a3m
 generalize csD cs = C at *
 refine b8 (ρ1 := [some (.val (c7 ((w : Int), (h : Int)))), some (.val C), some (.val (.int (w : Int))), some (.val (.int (h : Int))), none, none, none, none, none, none, none, none, none, none, none]) (S1 := S') (by simp [c7]) ?_
 refine b8 (ρ1 := [some (.val (c7 ((w : Int), (h : Int)))), some (.val C), some (.val (.int (w : Int))), some (.val (.int (h : Int))), some (.own ((m6 w h cs 1).map LD)), none, none, none, none, none, none, none, none, none, none]) (S1 := S') (by
  rw [← s1]
  simp [d1]) ?_
 generalize (m6 w h cs 1).map LD = A1 at *
 generalize (m6 w h cs (30 + 1)).map LD = A31 at *
 refine b8 (ρ1 := [some (.val (c7 ((w : Int), (h : Int)))), some (.val C), some (.val (.int (w : Int))), some (.val (.int (h : Int))), some (.own A31), z5, z6, z7, z8, z9, z10, z11, z12, z13, z14]) (S1 := S') (by simp [gr, e]) ?_
 simp
end
end BV
namespace BV
open PySem L2

def LeL (L L' : LDc) : Prop := ∀ k e, F6 L k = some e → ∃ e', F6 L' k = some e' ∧ e'.c ≤ e.c
theorem LeL.refl {L : LDc} : LeL L L := fun _ e h => ⟨e, h, Int.le_refl _⟩
theorem LeL.trans {L L' L'' : LDc} (h : LeL L L') (h' : LeL L' L'') : LeL L L'' := fun k e he => by
 obtain ⟨e1, h1, h2⟩ := h k e he
 obtain ⟨e2, h3, h4⟩ := h' k e1 h1
 exact ⟨e2, h3, Int.le_trans h4 h2⟩
section
variable {α : Type} {f : LDc → α → LDc}
theorem a3x : ∀ (xs : List α) (L : LDc), (∀ L, ∀ x ∈ xs, LeL L (f L x)) → LeL L (xs.foldl f L)
 | [], L, _ => LeL.refl
 | x :: xs, L, hf => (hf L x (List.mem_cons_self ..)).trans (a3x xs (f L x) fun L y hy => hf L y (List.mem_cons_of_mem _ hy))
theorem a0p (Pr : LDc → Prop) (h2 : ∀ L L', Pr L → LeL L L' → Pr L') : ∀ (xs : List α) (L : LDc), (∀ L, ∀ x ∈ xs, LeL L (f L x)) → (∃ x ∈ xs, ∀ L, Pr (f L x)) → Pr (xs.foldl f L)
 | [], L, _, h => by obtain ⟨x, hx, _⟩ := h; exact nomatch hx
 | x :: xs, L, hf, h => by
  obtain ⟨y, hy, hp⟩ := h
  have hf' : ∀ L, ∀ x ∈ xs, LeL L (f L x) := fun L y hy => hf L y (List.mem_cons_of_mem _ hy)
  rcases List.mem_cons.mp hy with e | hy
  ·subst e
   exact h2 _ _ (hp L) (a3x xs (f L y) hf')
  ·exact a0p Pr h2 xs (f L x) hf' ⟨y, hy, hp⟩
theorem a0t (Q : LDc → Prop) : ∀ (xs : List α) (L : LDc), (∀ L, ∀ x ∈ xs, Q L → Q (f L x)) → Q L → Q (xs.foldl f L)
 | [], L, _, h => h
 | x :: xs, L, hf, h => a0t Q xs (f L x) (fun L y hy => hf L y (List.mem_cons_of_mem _ hy)) (hf L x (List.mem_cons_self ..) h)
end
section
variable {w h cu cn : Int} {prev : LDc}
theorem b17 {st : Int × Int} {L : LDc} {m l : Int} : LeL L (b3m w cu cn prev st L m l) := by
 unfold b3m
 split
 ·exact LeL.refl
 ·rename_i p e
  split
  ·rename_i hb
   intro k e1 he
   rw [a0U]
   by_cases hk : k = (st.1 + m, p.1)
   ·rw [if_pos hk]
    refine ⟨_, rfl, ?_⟩
    rw [← hk, he] at hb
    have hb' := of_decide_eq_true hb
    exact Int.le_of_lt hb'
   ·rw [if_neg hk]
    exact ⟨e1, he, Int.le_refl _⟩
  ·exact LeL.refl
theorem a4W {st : Int × Int} {L : LDc} {m : Nat} : LeL L (Z5 w cu cn prev st L m) := a3x _ _ fun _ _ _ => b17
theorem b2K {st : Int × Int} {L : LDc} : LeL L (a0b w h cu cn prev L st) := a3x _ _ fun _ _ _ => a4W
theorem a8r {st : Int × Int} {p : LSt} (hp : F6 prev st = some p) {m l : Nat} (hm : (m : Int) ≤ min (h - st.1) (O5 w cu cn st.2)) (hl : (l : Int) ≤ min cu (max 0 st.2)) {a dc : Int} (e : onP w cu cn st.2 (m : Int) (l : Int) = some (a, dc)) :
  ∃ e', F6 (N2 w h cu cn prev) (st.1 + (m : Int), a) = some e' ∧ e'.c ≤ p.c + dc := by
 have h2 : ∀ L L', (∃ e', F6 L (st.1 + (m : Int), a) = some e' ∧ e'.c ≤ p.c + dc) → LeL L L' → ∃ e', F6 L' (st.1 + (m : Int), a) = some e' ∧ e'.c ≤ p.c + dc := fun L L' ⟨e1, h1, h3⟩ le => by
  obtain ⟨e2, h4, h5⟩ := le _ _ h1
  exact ⟨e2, h4, by omega⟩
 unfold N2
 refine a0p _ h2 _ _ (fun _ _ _ => b2K) ⟨st, sortB_mem.mpr (List.mem_map.mpr ⟨_, P5 hp, rfl⟩), fun L => ?_⟩
 unfold a0b
 refine a0p _ h2 _ _ (fun _ _ _ => a4W) ⟨m, List.mem_range.mpr (by unfold a4f; omega), fun L => ?_⟩
 unfold Z5
 refine a0p _ h2 _ _ (fun _ _ _ => b17) ⟨l, List.mem_range.mpr (by unfold U7; omega), fun L => ?_⟩
 unfold b3m
 rw [e, hp]
 simp only [Option.map_some, Option.getD_some]
 split
 ·rename_i hb
  rw [a0U, if_pos rfl]
  exact ⟨_, rfl, Int.le_refl _⟩
 ·rename_i hb
  cases eg : F6 L (st.1 + (m : Int), a) with
  | none => rw [eg] at hb; exact absurd rfl hb
  | some e1 =>
   rw [eg] at hb
   have : ¬ (p.c + dc < e1.c) := fun z => hb (decide_eq_true z)
   exact ⟨e1, rfl, by omega⟩
def Src (w h cu cn : Int) (prev : LDc) (k : Int × Int) (e : LSt) : Prop := ∃ st p dc, F6 prev st = some p ∧ e.ah = some st ∧ 0 ≤ e.m ∧ 0 ≤ e.l ∧ e.m ≤ h - st.1 ∧ e.m ≤ O5 w cu cn st.2 ∧ e.l ≤ cu ∧ e.l ≤ max 0 st.2 ∧ onP w cu cn st.2 e.m e.l = some (k.2, dc) ∧ k.1 = st.1 + e.m ∧ e.c = p.c + dc
theorem a8j (hb : ∀ k ∈ prev.map (·.1), k.1 ≤ h) (h0 : 0 ≤ cu) (h1 : 0 ≤ cn) (hw : 0 < w) {k : Int × Int} {e : LSt} (he : F6 (N2 w h cu cn prev) k = some e) : Src w h cu cn prev k e := by
 have key : (fun L : LDc => ∀ k e, F6 L k = some e → Src w h cu cn prev k e) (N2 w h cu cn prev) := by
  unfold N2
  refine a0t (fun L : LDc => ∀ k e, F6 L k = some e → Src w h cu cn prev k e) _ _ (fun L st hst q => ?_) (fun k e (he : F6 [] k = some e) => by cases he)
  have hst' : st ∈ prev.map (·.1) := sortB_mem.mp hst
  obtain ⟨p, hp⟩ := a4t hst'
  have hh := hb st hst'
  have mp0 : 0 ≤ O5 w cu cn st.2 := by
   unfold O5
   have := a8p st.2
   exact Int.ediv_nonneg (by omega) (by omega)
  unfold a0b
  refine a0t (fun L : LDc => ∀ k e, F6 L k = some e → Src w h cu cn prev k e) _ _ (fun L m hm q => ?_) q
  rw [List.mem_range] at hm
  unfold a4f at hm
  unfold Z5
  refine a0t (fun L : LDc => ∀ k e, F6 L k = some e → Src w h cu cn prev k e) _ _ (fun L l hl q => ?_) q
  rw [List.mem_range] at hl
  unfold U7 at hl
  unfold b3m
  rw [hp]
  simp only [Option.map_some, Option.getD_some]
  cases eo : onP w cu cn st.2 (m : Int) (l : Int) with
  | none => exact q
  | some r =>
   simp only
   split
   ·intro k e he
    rw [a0U] at he
    by_cases hk : k = (st.1 + (m : Int), r.1)
    ·rw [if_pos hk] at he
     cases he
     subst hk
     exact ⟨st, p, r.2, hp, rfl, by show (0 : Int) ≤ (m : Int); omega, by show (0 : Int) ≤ (l : Int); omega, by show (m : Int) ≤ _; omega, by show (m : Int) ≤ _; omega, by show (l : Int) ≤ _; omega, by show (l : Int) ≤ _; omega, eo, rfl, rfl⟩
    ·rw [if_neg hk] at he
     exact q k e he
   ·exact q
 exact key k e he
end
inductive Way (w h : Int) (cs : List Nat) : Nat → Int × Int → Int → List (Int × Int) → Prop
 | zero : Way w h cs 0 (0, 0) 0 []
 | succ {u : Nat} {st : Int × Int} {c : Int} {ps : List (Int × Int)} {m l a dc : Int} : Way w h cs u st c ps → 0 ≤ m → 0 ≤ l → st.1 + m ≤ h → l ≤ ct cs (u + 1) → l ≤ max 0 st.2 → onP w (ct cs (u + 1)) (ct cs (u + 2)) st.2 m l = some (a, dc) → Way w h cs (u + 1) (st.1 + m, a) (c + dc) (ps ++ [(m, l)])
section
variable {w h : Nat} {cs : List Nat} {N : Int}
def W0 (w h : Nat) (cs : List Nat) : Nat → Int × Int → List (Int × Int)
 | 0, _ => []
 | u + 1, st => match F6 (i8 w h cs (u + 1)) st with
  | some e => W0 w h cs u (e.ah.getD (0, 0)) ++ [(e.m, e.l)]
  | none => []
theorem a32 (hw : 1 ≤ w) (k : ∀ u, u ≤ 30 → LOk (h : Int) N (i8 w h cs u)) : ∀ (u : Nat), u ≤ 30 → ∀ {st : Int × Int} {e : LSt}, F6 (i8 w h cs u) st = some e → Way (w : Int) (h : Int) cs u st e.c (W0 w h cs u st)
 | 0, _, st, e, he => by
  have hm := P5 he
  simp only [i8, List.mem_singleton, Prod.mk.injEq] at hm
  obtain ⟨rfl, rfl⟩ := hm
  exact .zero
 | u + 1, hu, st, e, he => by
  have hs := a8j (h := (h : Int)) (fun k' hk' => (k u (by omega)).box k' hk' |>.r1) (A7 cs _) (A7 cs _) (show (0 : Int) < (w : Int) by omega) (show F6 (N2 (w : Int) (h : Int) (ct cs (u + 1)) (ct cs (u + 2)) (i8 w h cs u)) st = some e from he)
  obtain ⟨st0, p, dc, hp, ha, m0, l0, m1, m2, l1, l2, eo, e1, e2⟩ := hs
  have ih := a32 hw k u (by omega) hp
  have := Way.succ ih m0 l0 (by omega) l1 l2 eo
  rw [← e1, ← e2] at this
  have eb : W0 w h cs (u + 1) st = W0 w h cs u st0 ++ [(e.m, e.l)] := by
   show (match F6 (i8 w h cs (u + 1)) st with
    | some e => W0 w h cs u (e.ah.getD (0, 0)) ++ [(e.m, e.l)]
    | none => []) = _
   rw [he]
   simp only [ha, Option.getD_some]
  rw [eb]
  exact this
theorem b20 {w cu cn s : Int} (hw : 0 < w) : wt s + cu + cn ≤ w * O5 w cu cn s := by
 unfold O5
 have h1 := Int.emod_add_mul_ediv (wt s + cu + cn + w - 1) w
 have h2 := Int.emod_lt_of_pos (wt s + cu + cn + w - 1) hw
 omega
theorem b2y {x y z : Int} (h : x ≤ y) : min x z ≤ min y z := by omega
theorem b7s {x y z : Int} (h : z ≤ y) : min x z ≤ min y z := by omega
theorem l_ok {l cu s s' : Int} (l0 : 0 ≤ l) (lc : l ≤ cu) (ls : l ≤ max 0 s) (h : s ≤ s') : ((l.toNat : Nat) : Int) ≤ min cu (max 0 s') := by omega
theorem c3J {m h a b : Int} (m0 : 0 ≤ m) (h1 : m ≤ h - a) (h2 : m ≤ b) : ((m.toNat : Nat) : Int) ≤ min (h - a) b := by omega
theorem b7D {s s' : Int} (h : s ≤ s') : wt s' ≤ wt s := by unfold wt; split <;> split <;> omega
theorem a45 (hw : 1 ≤ w) (k : ∀ u, u ≤ 30 → LOk (h : Int) N (i8 w h cs u)) {u : Nat} {st : Int × Int} {c : Int} {ps : List (Int × Int)} (y : Way (w : Int) (h : Int) cs u st c ps) (hu : u ≤ 30) :
  ∃ st' e, F6 (i8 w h cs u) st' = some e ∧ st'.1 ≤ st.1 ∧ st.2 ≤ st'.2 ∧ e.c ≤ c := by
 induction y with
 | zero => exact ⟨(0, 0), ⟨0, none, 0, 0⟩, rfl, Int.le_refl _, Int.le_refl _, Int.le_refl _⟩
 | @succ u st c ps m l a dc y m0 l0 mh lc ls eo ih =>
  obtain ⟨st', e, he, r1, s1, c1⟩ := ih (by omega)
  have bx := (k u (by omega)).box st' (List.mem_map.mpr ⟨_, P5 he, rfl⟩)
  have cn0 := A7 cs (u + 2)
  have cu0 := A7 cs (u + 1)
  have wm := b7D s1
  have wp := a8p st'.2
  unfold onP at eo
  split at eo
  ·cases eo
  ·rename_i hr
   injection eo with eo
   injection eo with ea edc
   have mr := b20 (w := (w : Int)) (cu := ct cs (u + 1)) (cn := ct cs (u + 2)) (s := st'.2) (by omega)
   have mp0 : 0 ≤ O5 (w : Int) (ct cs (u + 1)) (ct cs (u + 2)) st'.2 := by
    unfold O5
    exact Int.ediv_nonneg (by omega) (by omega)
   by_cases hm : m ≤ O5 (w : Int) (ct cs (u + 1)) (ct cs (u + 2)) st'.2
   ·obtain ⟨e', h1, h2⟩ := a8r (w := (w : Int)) (h := (h : Int)) (cu := ct cs (u + 1)) (cn := ct cs (u + 2)) he (m := m.toNat) (l := l.toNat) (c3J m0 (by omega) hm) (l_ok l0 lc ls s1) (a := min ((w : Int) * m - wt st'.2 - (ct cs (u + 1) - l)) (ct cs (u + 2))) (dc := wt st'.2 + l) (by
     unfold onP
     rw [show ((m.toNat : Nat) : Int) = m by omega, show ((l.toNat : Nat) : Int) = l by omega, if_neg (by omega)])
    rw [show ((m.toNat : Nat) : Int) = m by omega] at h1
    exact ⟨_, e', h1, by show st'.1 + m ≤ st.1 + m; omega, by show a ≤ min _ _; rw [← ea]; exact b2y (by omega), by omega⟩
   ·generalize hM : O5 (w : Int) (ct cs (u + 1)) (ct cs (u + 2)) st'.2 = M at *
    obtain ⟨e', h1, h2⟩ := a8r (w := (w : Int)) (h := (h : Int)) (cu := ct cs (u + 1)) (cn := ct cs (u + 2)) he (m := M.toNat) (l := l.toNat) (c3J mp0 (by omega) (Int.le_of_eq hM.symm)) (l_ok l0 lc ls s1) (a := min ((w : Int) * M - wt st'.2 - (ct cs (u + 1) - l)) (ct cs (u + 2))) (dc := wt st'.2 + l) (by
     unfold onP
     rw [show ((M.toNat : Nat) : Int) = M by omega, show ((l.toNat : Nat) : Int) = l by omega, if_neg (by omega)])
    rw [show ((M.toNat : Nat) : Int) = M by omega] at h1
    exact ⟨_, e', h1, by show st'.1 + M ≤ st.1 + m; omega, by show a ≤ min _ _; rw [← ea]; exact b7s (by omega), by omega⟩
end
end BV
namespace BV
open PySem L2
def nD (x : Int × (Int × Int)) : D := .tuple [.int x.1, c7 x.2]
theorem b6H (x : Int × (Int × Int)) : b8e (nD x) = true := rfl
theorem b9a {x y : Int × (Int × Int)} : (W.dataLt (nD y) (nD x) = true → y.1 ≤ x.1) ∧ (W.dataLt (nD y) (nD x) = false → x.1 ≤ y.1) := by
 obtain ⟨c, r, s⟩ := x
 obtain ⟨c', r', s'⟩ := y
 have e : W.dataLt (nD (c', (r', s'))) (nD (c, (r, s))) = PyProof.Rows.lexLt PyProof.Rows.itemOrd (.inl 1 :: .inl c' :: [.inl 1, .inl 1, .inl r', .inl 1, .inl s', .inl 0, .inl 0]) (.inl 1 :: .inl c :: [.inl 1, .inl 1, .inl r, .inl 1, .inl s, .inl 0, .inl 0]) := rfl
 rw [e, c3u, if_pos rfl, c3u]
 show (_ → c' ≤ c) ∧ (_ → c ≤ c')
 by_cases h : c' = c
 ·exact ⟨fun _ => by omega, fun _ => by omega⟩
 ·rw [if_neg h]
  exact ⟨fun q => by have := of_decide_eq_true q; omega, fun q => by have := of_decide_eq_false q; omega⟩
theorem b1B : ∀ (xs : List (Int × (Int × Int))) (x : Int × (Int × Int)), ∃ y ∈ x :: xs, W.minD (nD x) (xs.map nD) = nD y ∧ ∀ z ∈ x :: xs, y.1 ≤ z.1
 | [], x => ⟨x, List.mem_cons_self .., rfl, fun z hz => by rw [List.mem_singleton.mp hz]; exact Int.le_refl _⟩
 | a :: xs, x => by
  have e : W.minD (nD x) ((a :: xs).map nD) = W.minD (if W.dataLt (nD a) (nD x) then nD a else nD x) (xs.map nD) := rfl
  cases h : W.dataLt (nD a) (nD x) with
  | true =>
   obtain ⟨y, hy, e1, h1⟩ := b1B xs a
   refine ⟨y, List.mem_cons_of_mem _ hy, by rw [e, h]; exact e1, fun z hz => ?_⟩
   rcases List.mem_cons.mp hz with q | hz
   ·subst q
    have := b9a.1 h
    have := h1 a (List.mem_cons_self ..)
    omega
   ·exact h1 z hz
  | false =>
   obtain ⟨y, hy, e1, h1⟩ := b1B xs x
   refine ⟨y, ?_, by rw [e, h]; exact e1, fun z hz => ?_⟩
   ·rcases List.mem_cons.mp hy with q | hy
    ·rw [q]; exact List.mem_cons_self ..
    ·exact List.mem_cons_of_mem _ (List.mem_cons_of_mem _ hy)
   ·rcases List.mem_cons.mp hz with q | hz
    ·subst q; exact h1 _ (List.mem_cons_self ..)
    ·rcases List.mem_cons.mp hz with q | hz
     ·subst q
      have := b9a.2 h
      have := h1 x (List.mem_cons_self ..)
      omega
     ·exact h1 z (List.mem_cons_of_mem _ hz)
theorem b4B {xs : List (Int × (Int × Int))} (h : xs ≠ []) : ∃ y ∈ xs, b0g [.list (xs.map nD)] = some (.val (nD y)) ∧ ∀ z ∈ xs, y.1 ≤ z.1 := by
 cases xs with
 | nil => exact absurd rfl h
 | cons x xs =>
  obtain ⟨y, hy, e, hm⟩ := b1B xs x
  refine ⟨y, hy, ?_, hm⟩
  rw [List.map_cons]
  show (if (nD x :: xs.map nD).all b8e = true then some (T.val (W.minD (nD x) (xs.map nD))) else none) = _
  rw [if_pos, e]
  rw [← List.map_cons, List.all_map]
  exact List.all_eq_true.mpr fun z _ => b6H z
def J1 (L : LDc) : List (Int × (Int × Int)) := (L.filter fun p => decide (0 ≤ p.1.2)).map fun p => (p.2.c, p.1)
theorem a0R {L : LDc} (nd : (L.map (·.1)).Nodup) {p : (Int × Int) × LSt} (h : p ∈ L) : F6 L p.1 = some p.2 := by
 induction L with
 | nil => exact nomatch h
 | cons q L ih =>
  rw [List.map_cons, List.nodup_cons] at nd
  unfold F6
  rw [List.find?_cons]
  rcases List.mem_cons.mp h with e | h
  ·subst e
   simp
  ·have : ¬ q.1 = p.1 := fun z => nd.1 (z ▸ List.mem_map.mpr ⟨p, h, rfl⟩)
   rw [decide_eq_false this]
   exact ih nd.2 h
theorem a0y {L : LDc} (nd : (L.map (·.1)).Nodup) {c : Int} {k : Int × Int} : (c, k) ∈ J1 L ↔ 0 ≤ k.2 ∧ ∃ e, F6 L k = some e ∧ e.c = c := by
 unfold J1
 rw [List.mem_map]
 constructor
 ·rintro ⟨p, hp, e⟩
  rw [List.mem_filter] at hp
  injection e with e1 e2
  subst e2
  exact ⟨of_decide_eq_true hp.2, p.2, a0R nd hp.1, e1⟩
 ·rintro ⟨h, e, he, rfl⟩
  exact ⟨(k, e), List.mem_filter.mpr ⟨P5 he, decide_eq_true h⟩, rfl⟩
section
variable {S : Sto} {w h : Nat} {cs : List Nat} {N : Int}
def b6h (w h : Nat) (cs : List Nat) (e4 : D) (F : List (Int × Int)) (y3 y6 y7 y8 y9 y10 : Option T) : En :=
 [some (.val (c7 ((w : Int), (h : Int)))), some (.val (csD cs)), some (.own ((m6 w h cs 31).map LD)), y3, some (.val e4), some (.own (F.map c7)), y6, y7, y8, y9, y10]
theorem b4U {u : Nat} (hu : u ≤ 30) : gIx (.list ((m6 w h cs 31).map LD)) (.int (u : Int)) = some (.val (LD (i8 w h cs u))) := by
 rw [E9, C7 (v := LD (i8 w h cs u))]
 ·rfl
 ·unfold m6
  rw [List.map_map, List.getElem?_map, List.getElem?_range (by omega)]
  rfl
theorem b2Z {u : Nat} (hu : u ≤ 30) {st : Int × Int} {e : LSt} (he : F6 (i8 w h cs u) st = some e) {F : List (Int × Int)} (hF : F.length ≤ 1000) {y3 y7 y8 y9 y10 : Option T} :
  ∃ z7 z8 z9 z10, D6 (b6h w h cs (c7 st) F y3 (some (.val (.int (u : Int)))) y7 y8 y9 y10) S = .nx (b6h w h cs (ahD e.ah) (F ++ [(e.m, e.l)]) y3 (some (.val (.int (u : Int)))) z7 z8 z9 z10) S := by
 have si := b4U (w := w) (h := h) (cs := cs) hu
 have tx := a2O he
 have ap : w5 (F.map c7) [.tuple [.int e.m, .int e.l]] = some ((F ++ [(e.m, e.l)]).map c7, .none) := Y0 c7 (x := (e.m, e.l)) (by omega)
 refine ⟨some (.val (.int e.c)), some (.val (ahD e.ah)), some (.val (.int e.m)), some (.val (.int e.l)), ?_⟩
 unfold D6 b6h
 generalize csD cs = C at *
 generalize (m6 w h cs 31).map LD = A at *
 generalize (F ++ [(e.m, e.l)]).map c7 = F2 at *
 generalize F.map c7 = F1 at *
 refine b8 (ρ1 := [some (.val (c7 ((w : Int), (h : Int)))), some (.val C), some (.own A), y3, some (.val (c7 st)), some (.own F1), some (.val (.int (u : Int))), some (.val (.int e.c)), some (.val (ahD e.ah)), some (.val (.int e.m)), some (.val (.int e.l))]) (S1 := S) (by simp [si, tx, a8q]) ?_
 have ha : ∀ {ρ : En}, ρ[8]? = some (some (.val (ahD e.ah))) → l7 8 ρ S = .ok (.val (ahD e.ah)) S := fun h => by simp [h]
 refine b8 (ρ1 := [some (.val (c7 ((w : Int), (h : Int)))), some (.val C), some (.own A), y3, some (.val (c7 st)), some (.own F2), some (.val (.int (u : Int))), some (.val (.int e.c)), some (.val (ahD e.ah)), some (.val (.int e.m)), some (.val (.int e.l))]) (S1 := S) (by simp [ap]) ?_
 simp
theorem b5R (hl : cs.length = 32) (hw : w ≤ 100) (hw1 : 1 ≤ w) (hh : h ≤ 15) (hN : N ≤ 60) (hcs : ∀ u, ct cs u ≤ N) :
  (J1 (i8 w h cs 30) = [] → v7 [.val (c7 ((w : Int), (h : Int))), .val (csD cs)] S = .exc ⟨"NoLayout", none⟩ S) ∧
  (J1 (i8 w h cs 30) ≠ [] → ∃ c st, (c, st) ∈ J1 (i8 w h cs 30) ∧ (∀ z ∈ J1 (i8 w h cs 30), c ≤ z.1) ∧ v7 [.val (c7 ((w : Int), (h : Int))), .val (csD cs)] S = .ok (.own (((0, 0) :: W0 w h cs 30 st).map c7)) S) := by
 obtain ⟨hst, k⟩ := a0P (S := S) hl hw hw1 hh hN hcs
 have k30 := k 30 (Nat.le_refl _)
 have l30 := k30.len (by omega) hN
 have sl : gIx (.list ((m6 w h cs 31).map LD)) (.int (-1)) = some (.val (LD (i8 w h cs 30))) := by
  rw [R9 30, List.map_append]
  exact a7b
 have sx : ∀ {ρ : En}, ρ[2]? = some (some (.own ((m6 w h cs 31).map LD))) → a5N (d5 gIx (b7 2) (cUn a1M (cC (.int 1)))) ρ S = .ok ((i8 w h cs 30).map fun p => c7 p.1) S := fun {ρ} h2 => by
  have hp : P0 (kvT (kvL (i8 w h cs 30))) = some ((i8 w h cs 30).map (·.1)) := by
   generalize i8 w h cs 30 = L
   induction L with
   | nil => rfl
   | cons p L ih =>
    show (P0 (kvT (kvL L))).map _ = _
    rw [ih]
    rfl
  have e0 : (d5 gIx (b7 2) (cUn a1M (cC (.int 1)))) ρ S = .ok (.val (LD (i8 w h cs 30))) S := by
   generalize (m6 w h cs 31).map LD = A at *
   simp [h2, sl]
  unfold a5N
  rw [e0]
  have e1 : unD (mkD true (kvT (kvL (i8 w h cs 30)))) = (true, kvT (kvL (i8 w h cs 30))) := rfl
  unfold LD
  simp only [b1T, e1, if_true, hp, List.length_map, if_pos (show (i8 w h cs 30).length ≤ 10000 by omega), List.map_map]
  rfl
 have lc : ∀ (c d : Option T) (f g i j l m n : Option T), lcM (f8 4) (cB (d5 gGe (d5 gIx (b7 4) (cC (.int 1))) (cC (.int 0)))) (X0 (d2 (d5 gIx (d5 b1k (d5 gIx (b7 2) (cUn a1M (cC (.int 1)))) (b7 4)) (cC (.int 0))) (d2 (l7 4) l8)))
   [c, d, some (.own ((m6 w h cs 31).map LD)), f, g, i, j, l, m, n, none] ((i8 w h cs 30).map fun p => c7 p.1) S = .ok ((J1 (i8 w h cs 30)).map nD) S := fun c d f g i j l m n => by
  have := W4 (S := S) (b := f8 4) (tt := (cB (d5 gGe (d5 gIx (b7 4) (cC (.int 1))) (cC (.int 0))))) (elt := (X0 (d2 (d5 gIx (d5 b1k (d5 gIx (b7 2) (cUn a1M (cC (.int 1)))) (b7 4)) (cC (.int 0))) (d2 (l7 4) l8))))
   (ρ := [c, d, some (.own ((m6 w h cs 31).map LD)), f, g, i, j, l, m, n, none]) (fun p : (Int × Int) × LSt => c7 p.1) (fun p => decide (0 ≤ p.1.2)) (fun p => nD (p.2.c, p.1)) (i8 w h cs 30) fun p hp => by
    have tx := a2O (a0R k30.nd hp)
    have il : gIx (a8q p.2) (.int 0) = some (.val (.int p.2.c)) := rfl
    have i1 : gIx (c7 p.1) (.int 1) = some (.val (.int p.1.2)) := rfl
    refine ⟨_, .val (nD (p.2.c, p.1)), rfl, ?_, ?_, rfl⟩
    ·simp [i1]
    ·generalize (m6 w h cs 31).map LD = A at *
     simp [sl, tx, il, nD]
  rw [this]
  unfold J1
  rw [List.map_map]
  rfl
 have pre : ∀ {r : Fl} {rest : SS}, rest [some (.val (c7 ((w : Int), (h : Int)))), some (.val (csD cs)), some (.own ((m6 w h cs 31).map LD)), some (.own ((J1 (i8 w h cs 30)).map nD)), none, none, none, none, none, none, none] S = r →
   (k7 (u8 2 (p6 F5 (d2 (l7 0) (d2 (l7 1) l8)))) (k7 (u8 3 (cLc (a5N (d5 gIx (b7 2) (cUn a1M (cC (.int 1))))) (f8 4) (cB (d5 gGe (d5 gIx (b7 4) (cC (.int 1))) (cC (.int 0)))) (X0 (d2 (d5 gIx (d5 b1k (d5 gIx (b7 2) (cUn a1M (cC (.int 1)))) (b7 4)) (cC (.int 0))) (d2 (l7 4) l8))) [4])) rest)) (start0 11 [.val (c7 ((w : Int), (h : Int))), .val (csD cs)]) S = r := fun hr => by
  refine b8 (ρ1 := [some (.val (c7 ((w : Int), (h : Int)))), some (.val (csD cs)), some (.own ((m6 w h cs 31).map LD)), none, none, none, none, none, none, none, none]) (S1 := S) (by
   generalize csD cs = C at *
   generalize (m6 w h cs 31).map LD = A at *
   simp [hst]) ?_
  refine b8 ?_ hr
  have e0 : cLc (a5N (d5 gIx (b7 2) (cUn a1M (cC (.int 1))))) (f8 4) (cB (d5 gGe (d5 gIx (b7 4) (cC (.int 1))) (cC (.int 0)))) (X0 (d2 (d5 gIx (d5 b1k (d5 gIx (b7 2) (cUn a1M (cC (.int 1)))) (b7 4)) (cC (.int 0))) (d2 (l7 4) l8))) [4]
    [some (.val (c7 ((w : Int), (h : Int)))), some (.val (csD cs)), some (.own ((m6 w h cs 31).map LD)), none, none, none, none, none, none, none, none] S = .ok (.own ((J1 (i8 w h cs 30)).map nD)) S := by
   rw [c1Y, sx rfl]
   simp only [a1g]
   rw [show t6 [some (.val (c7 ((w : Int), (h : Int)))), some (.val (csD cs)), some (.own ((m6 w h cs 31).map LD)), none, none, none, none, none, none, none, none] [4] = [some (.val (c7 ((w : Int), (h : Int)))), some (.val (csD cs)), some (.own ((m6 w h cs 31).map LD)), none, none, none, none, none, none, none, none] from rfl, lc]
   rfl
  rw [b6Y, c06, e0]
  rfl
 constructor
 ·intro he
  unfold v7
  rw [b3A]
  unfold Q4
  have := pre (r := .ex ⟨"NoLayout", none⟩ [some (.val (c7 ((w : Int), (h : Int)))), some (.val (csD cs)), some (.own ((m6 w h cs 31).map LD)), some (.own []), none, none, none, none, none, none, none] S)
   (rest := (k7 (sIf (cB (d5 (gEq false) (b7 3) (t9 l8))) (a2e "NoLayout") r7)
  (k7 (u8 4 (d5 gIx (cB1 b0g (i4 (b7 3) w3)) (cC (.int 1))))
  (k7 (u8 5 (t9 l8))
  (k7 (a1t (a1H b2H (i4 (cC (.int 30)) (i4 (cUn a1M (cC (.int 1))) (i4 (cUn a1M (cC (.int 1))) w3)))) (f8 6) D6)
  (G9 (cUn c0C (b7 5)))))))) (by
   rw [he]
   generalize (m6 w h cs 31).map LD = A at *
   generalize csD cs = C at *
   simp)
  rw [this]
 ·intro he
  obtain ⟨⟨c, st⟩, hy, hmin, hle⟩ := b4B he
  obtain ⟨_, e0, he0, hc0⟩ := (a0y k30.nd).mp hy
  refine ⟨c, st, hy, hle, ?_⟩
  have loop := D7 (b := f8 6) (body := D6) (fun i ρ S' => S' = S ∧ ∃ F d y6 y7 y8 y9 y10, ρ = b6h w h cs d F (some (.own ((J1 (i8 w h cs 30)).map nD))) y6 y7 y8 y9 y10 ∧ F.length = i ∧ (i ≤ 30 → ∃ st' e, d = c7 st' ∧ F6 (i8 w h cs (30 - i)) st' = some e ∧ W0 w h cs 30 st = W0 w h cs (30 - i) st' ++ F.reverse) ∧ (i = 31 → F.reverse = (0, 0) :: W0 w h cs 30 st))
   ((List.range 31).map fun (k : Nat) => PyData.int (30 - (k : Int))) 0 (b6h w h cs (c7 st) [] (some (.own ((J1 (i8 w h cs 30)).map nD))) none none none none none) S ⟨rfl, [], _, _, _, _, _, _, rfl, rfl, fun _ => ⟨st, e0, rfl, he0, by rw [List.reverse_nil, List.append_nil]⟩, fun z => by omega⟩ (by
    rintro i d ρ S' hd ⟨rfl, F, d', y6, y7, y8, y9, y10, rfl, hFl, hi, _⟩
    rw [List.getElem?_map] at hd
    have hi31 : i < 31 := by
     cases q : (List.range 31)[i]? with
     | none => rw [q] at hd; cases hd
     | some v => have := (List.getElem?_eq_some_iff.mp q).1; simpa using this
    rw [List.getElem?_range hi31] at hd
    cases hd
    rw [Nat.zero_add] at hFl hi
    obtain ⟨st', e, rfl, he', hb⟩ := hi (by omega)
    have hu : (30 : Int) - (i : Int) = ((30 - i : Nat) : Int) := by omega
    obtain ⟨z7, z8, z9, z10, et⟩ := b2Z (S := S') (u := 30 - i) (by omega) he' (F := F) (by omega) (y3 := some (.own ((J1 (i8 w h cs 30)).map nD))) (y7 := y7) (y8 := y8) (y9 := y9) (y10 := y10)
    refine ⟨_, rfl, _, S', .inl ?_, rfl, F ++ [(e.m, e.l)], ahD e.ah, some (.val (.int ((30 - i : Nat) : Int))), z7, z8, z9, z10, rfl, by rw [List.length_append, Nat.zero_add, hFl]; rfl, fun hle' => ?_, fun hle' => ?_⟩
    ·show D6 (b6h w h cs (c7 st') F _ (some (.val (.int (30 - (i : Int))))) y7 y8 y9 y10) S' = _
     rw [hu]
     exact et
    ·rw [Nat.zero_add] at hle' ⊢
     obtain ⟨v, hv⟩ : ∃ v, 30 - i = v + 1 := ⟨30 - i - 1, by omega⟩
     rw [hv] at he' hb
     have hs := a8j (h := (h : Int)) (fun k' hk' => (k v (by omega)).box k' hk' |>.r1) (A7 cs _) (A7 cs _) (show (0 : Int) < (w : Int) by omega) (show F6 (N2 (w : Int) (h : Int) (ct cs (v + 1)) (ct cs (v + 2)) (i8 w h cs v)) st' = some e from he')
     obtain ⟨st0, p, dc, hp, ha, _⟩ := hs
     have hv2 : 30 - (i + 1) = v := by omega
     rw [hv2]
     refine ⟨st0, p, by rw [ha]; rfl, hp, ?_⟩
     rw [hb]
     have eb : W0 w h cs (v + 1) st' = W0 w h cs v st0 ++ [(e.m, e.l)] := by
      show (match F6 (i8 w h cs (v + 1)) st' with
       | some e => W0 w h cs v (e.ah.getD (0, 0)) ++ [(e.m, e.l)]
       | none => []) = _
      rw [he']
      simp only [ha, Option.getD_some]
     rw [eb, List.reverse_append]
     simp
    ·rw [Nat.zero_add] at hle'
     have h0 : 30 - i = 0 := by omega
     rw [h0] at he' hb
     have hm := P5 he'
     simp only [i8, List.mem_singleton, Prod.mk.injEq] at hm
     obtain ⟨rfl, rfl⟩ := hm
     rw [hb, List.reverse_append]
     rfl)
  obtain ⟨ρ', S', e, rfl, F, d, y6, y7, y8, y9, y10, rfl, hFl, _, hF⟩ := loop
  have hlen : ((List.range 31).map fun (k : Nat) => PyData.int (30 - (k : Int))).length = 31 := by rw [List.length_map, List.length_range]
  rw [Nat.zero_add, hlen] at hF
  have hF := hF rfl
  unfold v7
  refine E1 ?_
  unfold Q4
  refine pre ?_
  have ne : gEq false (.list ((J1 (i8 w h cs 30)).map nD)) (.list []) = some (.val (.bool false)) := by
   rw [c1a (a0n nD (fun _ => rfl) (fun _ => by simp [nD, c7, PyData.depth, PyData.depthAll]) _).1 b4T]
   cases hx : J1 (i8 w h cs 30) with
   | nil => exact absurd hx he
   | cons x xs => simp
  have mn : b0g [.list ((J1 (i8 w h cs 30)).map nD)] = some (.val (nD (c, st))) := hmin
  have gr : b2H [.int 30, .int (-1), .int (-1)] = some ((List.range 31).map fun (k : Nat) => PyData.int (30 - (k : Int))) := by
   show (if (-1 : Int) = -1 ∧ ((30 : Int) - (-1)).toNat ≤ sizeLine ∧ B0 30 = true ∧ B0 (-1) = true then some ((List.range ((30 : Int) - (-1)).toNat).map fun (k : Nat) => PyData.int (30 - (k : Int))) else none) = _
   rw [if_pos ⟨rfl, by rw [sizeLine_eq]; decide, by decide, by decide⟩]
   rfl
  have n1 : gIx (nD (c, st)) (.int 1) = some (.val (c7 st)) := rfl
  unfold b6h at e
  have rv : F.reverse.map c7 = (F.map c7).reverse := List.map_reverse ..
  rw [← hF, rv]
  generalize (m6 w h cs 31).map LD = A at *
  generalize csD cs = C at *
  generalize (J1 (i8 w h cs 30)).map nD = E at *
  generalize ((List.range 31).map fun (k : Nat) => PyData.int (30 - (k : Int))) = R31 at *
  rw [List.map_nil] at e
  generalize F.map c7 = F1 at *
  refine b8 (ρ1 := [some (.val (c7 ((w : Int), (h : Int)))), some (.val C), some (.own A), some (.own E), none, none, none, none, none, none, none]) (S1 := S') (by simp [ne]) ?_
  refine b8 (ρ1 := [some (.val (c7 ((w : Int), (h : Int)))), some (.val C), some (.own A), some (.own E), some (.val (c7 st)), none, none, none, none, none, none]) (S1 := S') (by simp [mn, n1]) ?_
  refine b8 (ρ1 := [some (.val (c7 ((w : Int), (h : Int)))), some (.val C), some (.own A), some (.own E), some (.val (c7 st)), some (.own []), none, none, none, none, none]) (S1 := S') (by simp) ?_
  refine b8 (ρ1 := [some (.val (c7 ((w : Int), (h : Int)))), some (.val C), some (.own A), some (.own E), some (.val d), some (.own F1), y6, y7, y8, y9, y10]) (S1 := S') (by simp [gr, e]) ?_
  simp
end
end BV
namespace BV
open PySem L2
open PySem.Spec PyProof.Rows

structure Th (d : D) : Prop where
 nd : A0 d = true
 dp : d.depth ≤ 60
 cl : PyData.canLay0 d = true
theorem Th.eq {d : D} (h : Th d) : N3 d = true := by
 unfold N3
 rw [h.nd, Bool.true_and]
 exact decide_eq_true (Nat.le_trans h.dp (by decide))
theorem Th.dct {d : D} (h : Th d) : q7 d = false := a47 h.nd
theorem Th.self {d : D} (h : Th d) : gEq false d d = some (.val (.bool true)) := b2Y h.eq h.cl
theorem a0Z : ∀ {ds : List D} {d : D}, d ∈ ds → d.depth ≤ PyData.depthAll ds
 | e :: ds, d, h => by
  simp only [PyData.depthAll]
  rcases List.mem_cons.mp h with q | q
  ·rw [q]; omega
  ·have := a0Z q; omega
theorem a57 : ∀ {ds : List D} {d : D}, PyData.canLayAll0 ds = true → d ∈ ds → PyData.canLay0 d = true
 | e :: ds, d, hc, h => by
  simp only [PyData.canLayAll0, Bool.and_eq_true] at hc
  rcases List.mem_cons.mp h with q | q
  ·rw [q]; exact hc.1
  ·exact a57 hc.2 q
theorem Th.t {ds : List D} (h : Th (.tuple ds)) : ∀ d ∈ ds, Th d := fun d hd => by
 refine ⟨R8 h.nd d hd, ?_, a57 (ds := ds) (by have := h.cl; simpa [PyData.canLay0] using this) hd⟩
 have h1 := h.dp
 have h2 := a0Z hd
 simp only [PyData.depth] at h1
 omega
theorem Th.l {ds : List D} (h : Th (.list ds)) : ∀ d ∈ ds, Th d := fun d hd => by
 refine ⟨R8 h.nd d hd, ?_, a57 (ds := ds) (by have := h.cl; simpa [PyData.canLay0] using this) hd⟩
 have h1 := h.dp
 have h2 := a0Z hd
 simp only [PyData.depth] at h1
 omega
theorem Th.of {n : Nat} {d : D} (h : a2q n d = true) (hn : n ≤ 60) : Th d := by
 obtain ⟨h1, h2, h3⟩ := G4 h
 exact ⟨h1, by omega, h3⟩
theorem Th.strOk {x : Str} (h : Th (.str x)) : PyData.strOk x = true := h.cl
end BV
namespace BV
open PySem L2

section
variable {S : Sto}
end
end BV
namespace BV
open PySem L2
section
variable {S : Sto}
end
end BV
namespace BV
open PySem L2
section
variable {S : Sto}
end
end BV
namespace BV
open PySem L2

end BV
namespace BV
open PySem L2

section
variable {S : Sto} {w h : Nat} {units : List Int} {rows : List (List e9)} {s l f m : Int}
end
end BV
namespace BV
open PySem L2

section
variable {S : Sto}
end
end BV
namespace BV
open PySem L2

section
variable {S : Sto} {hx : K5}
end
end BV
namespace BV
open PySem L2

section
variable {S : Sto} {n m : Nat}
end
end BV
namespace BV
open PySem L2
section
variable {S : Sto}
def ltD (p : Str × Int) : D := .tuple [.str p.1, .int p.2]
end
end BV
namespace BV
open PySem L2
def a3G (ls : List (Str × Int)) (u : Nat) : Nat := ls.countP fun p => decide (p.2 = (u : Int))
def o9 (ls : List (Str × Int)) : List Nat := (List.range 32).map (a3G ls)
theorem a3z (ls : List (Str × Int)) : (o9 ls).length = 32 := by unfold o9; simp
theorem a2f {ls : List (Str × Int)} {u : Nat} (h : u < 32) : ct (o9 ls) u = (a3G ls u : Int) := by
 unfold ct o9
 rw [List.getElem?_map, List.getElem?_range h]
 rfl
theorem b2z {ls : List (Str × Int)} (u : Nat) : ct (o9 ls) u ≤ (ls.length : Int) := by
 by_cases h : u < 32
 ·rw [a2f h]
  have : a3G ls u ≤ ls.length := List.countP_le_length
  omega
 ·unfold ct
  rw [List.getElem?_eq_none (by rw [a3z]; omega)]
  simp
section
variable {S : Sto}
theorem a6X {ls : List (Str × Int)} (hl : ∀ p ∈ ls, 1 ≤ p.2 ∧ p.2 ≤ 30) :
  C6 [.val (.list (ls.map ltD))] S = .ok (.own ((o9 ls).map fun (n : Nat) => PyData.int (n : Int))) S := by
 obtain ⟨ρ', e, y2, y3, rfl⟩ := Q5 (b := a0e 2 (m3 (f8 2) (m3 (f8 3) a0l))) (body := P1) (S := S) ltD (fun (g : Nat → Nat) (p : Str × Int) => fun u => if p.2 = (u : Int) then g u + 1 else g u)
  (fun g ρ => ∃ y2 y3, ρ = [some (.val (.list (ls.map ltD))), some (.own ((List.range 32).map fun (u : Nat) => PyData.int ((g u : Nat) : Int))), y2, y3]) ls (fun _ => 0)
  [some (.val (.list (ls.map ltD))), some (.own ((List.range 32).map fun (u : Nat) => PyData.int ((0 : Nat) : Int))), none, none] ⟨none, none, rfl⟩ (by
   rintro ⟨x, i⟩ hx g ρ ⟨y2, y3, rfl⟩
   obtain ⟨i1, i2⟩ := hl _ hx
   replace i1 : 1 ≤ i := i1
   replace i2 : i ≤ 30 := i2
   refine ⟨[some (.val (.list (ls.map ltD))), some (.own ((List.range 32).map fun (u : Nat) => PyData.int ((g u : Nat) : Int))), some (.val (.str x)), some (.val (.int i))], rfl, _, ?_, some (.val (.str x)), some (.val (.int i)), rfl⟩
   have hi : i.toNat < 32 := by omega
   have ix : ixN ((List.range 32).map fun (u : Nat) => PyData.int ((g u : Nat) : Int)).length i = some i.toNat := by
    rw [List.length_map, List.length_range]
    exact U8 (by omega) (by omega)
   have at1 : ((List.range 32).map fun (u : Nat) => PyData.int ((g u : Nat) : Int))[i.toNat]? = some (.int ((g i.toNat : Nat) : Int)) := by
    rw [List.getElem?_map, List.getElem?_range hi]
    rfl
   have st : ((List.range 32).map fun (u : Nat) => PyData.int ((g u : Nat) : Int)).set i.toNat (.int (((g i.toNat : Nat) : Int) + 1)) = (List.range 32).map fun (u : Nat) => PyData.int (((if i = (u : Int) then g u + 1 else g u : Nat) : Nat) : Int) := by
    refine List.ext_getElem? fun j => ?_
    rw [List.getElem?_set, List.length_map, List.length_range, List.getElem?_map, List.getElem?_map]
    by_cases hj : j < 32
    ·rw [List.getElem?_range hj]
     by_cases q : i.toNat = j
     ·rw [if_pos q, if_pos (by omega)]
      simp only [Option.map_some]
      rw [if_pos (by omega), q]
      rfl
     ·rw [if_neg q]
      simp only [Option.map_some]
      rw [if_neg (by omega)]
    ·rw [if_neg (by omega), List.getElem?_eq_none (by rw [List.length_range]; omega)]
     rfl
   unfold P1 a9V
   generalize (List.range 32).map (fun (u : Nat) => PyData.int (((if i = (u : Int) then g u + 1 else g u : Nat) : Nat) : Int)) = B at *
   generalize (List.range 32).map (fun (u : Nat) => PyData.int ((g u : Nat) : Int)) = A at *
   generalize ls.map ltD = LS at *
   simp [ix, at1, st])
 have key : ∀ (ls : List (Str × Int)) (g : Nat → Nat), ls.foldl (fun (g : Nat → Nat) (p : Str × Int) => fun (u : Nat) => if p.2 = (u : Int) then g u + 1 else g u) g = fun u => g u + a3G ls u := by
  intro ls
  induction ls with
  | nil => intro g; funext u; rfl
  | cons p ls ih =>
   intro g
   rw [List.foldl_cons, ih]
   funext u
   unfold a3G
   rw [List.countP_cons]
   by_cases q : p.2 = (u : Int)
   ·rw [if_pos q, if_pos (decide_eq_true q)]; omega
   ·rw [if_neg q, if_neg (by simpa using q)]
    omega
 rw [key] at e
 have m0 : E2 (.list [.int 0]) (.int 32) = some (.own ((List.range 32).map fun (u : Nat) => PyData.int ((0 : Nat) : Int))) := by rfl
 have e0 : ((List.range 32).map fun (u : Nat) => PyData.int ((0 + a3G ls u : Nat) : Int)) = (o9 ls).map fun (n : Nat) => PyData.int (n : Int) := by
  unfold o9
  rw [List.map_map]
  refine List.map_congr_left fun u _ => ?_
  simp
 rw [e0] at e
 unfold C6
 refine E1 ?_
 unfold T4
 generalize (o9 ls).map (fun (n : Nat) => PyData.int (n : Int)) = C at *
 generalize (List.range 32).map (fun (u : Nat) => PyData.int ((0 : Nat) : Int)) = Z at *
 generalize ls.map ltD = LS at *
 refine b8 (ρ1 := [some (.val (.list LS)), some (.own Z), none, none]) (S1 := S) (by simp [m0]) ?_
 refine b8 (ρ1 := [some (.val (.list LS)), some (.own C), y2, y3]) (S1 := S) (by simp [e]) ?_
 simp
end
theorem b4t {α : Type} {xs : List α} {f : Nat} : a19 xs (some (f : Int)) none = xs.drop f := by
 by_cases h : f ≤ xs.length
 ·exact b3h h
 ·unfold a19
  rw [HT.sIx_nat, HT.sIx_none, Nat.min_eq_right (by omega), List.drop_length, List.drop_eq_nil_of_le (by omega)]
  exact List.take_nil
theorem b8Q {α : Type} {xs : List α} {f : Nat} (h : f ≤ xs.length) : a19 xs none (some (f : Int)) = xs.take f := by
 rw [b1N, Nat.min_eq_left h]
def nmW (ls : List (Str × Int)) (u : Nat) : List Str := (ls.filter fun p => decide (p.2 = (u : Int))).map (·.1)
theorem T3 (ls : List (Str × Int)) (u : Nat) : (nmW ls u).length = a3G ls u := by
 unfold nmW a3G
 rw [List.length_map, List.countP_eq_length_filter]
def mW (wy : List (Nat × Nat)) (u : Nat) : Nat := (wy[u]?.getD (0, 0)).1
def lW (wy : List (Nat × Nat)) (u : Nat) : Nat := (wy[u]?.getD (0, 0)).2
section
variable (w : Nat) (ls : List (Str × Int)) (wy : List (Nat × Nat))
def D5 : Nat → List Str
 | 0 => []
 | u + 1 => (nmW ls (u + 1)).drop (lW wy (u + 1) + (w * mW wy (u + 1) - (D5 u).length))
def a9r (u : Nat) : List Str := ((nmW ls (u + 1)).drop (lW wy (u + 1))).take (w * mW wy (u + 1) - (D5 w ls wy u).length)
def a7G (u : Nat) : List (Str × Int) := (D5 w ls wy u).map (fun x => (x, (-1 : Int))) ++ (a9r w ls wy u).map fun x => (x, (0 : Int))
def V3 (u : Nat) : List (Str × Int) := ((nmW ls u).take (lW wy u)).map fun x => (x, (1 : Int))
def n5 (n j : Nat) : List (Str × Int) := (if 1 ≤ j ∧ j ≤ n then a7G w ls wy (j - 1) else []) ++ (if j + 1 ≤ n then V3 ls wy (j + 1) else [])
end
structure c2a (w : Nat) (ls : List (Str × Int)) (wy : List (Nat × Nat)) : Prop where
 len : wy.length = 31
 room : ∀ u, u < 30 → (D5 w ls wy u).length ≤ w * mW wy (u + 1)
 lent : ∀ u, u ≤ 30 → lW wy u ≤ a3G ls u
def wyD (wy : List (Nat × Nat)) : D := .list (wy.map fun p => c7 ((p.1 : Int), (p.2 : Int)))
def b8l (w : Nat) (ls : List (Str × Int)) (wy : List (Nat × Nat)) (F : List (List (Str × Int))) (wt : List Str) (y5 y6 y7 y8 y9 y10 y11 : Option T) : En :=
 [some (.val (.int (w : Int))), some (.val (.list (ls.map ltD))), some (.val (wyD wy)), some (.own2 (F.map fun l => l.map ltD)), some (.own (wt.map PyData.str)), y5, y6, y7, y8, y9, y10, y11]
def n8 (w : Nat) (ls : List (Str × Int)) (wy : List (Nat × Nat)) (n : Nat) : List (List (Str × Int)) := (List.range 33).map (n5 w ls wy n)
section
variable {S : Sto} {w : Nat} {ls : List (Str × Int)} {wy : List (Nat × Nat)}
theorem a27 {F : List (List (Str × Int))} {ρ : En} {fa : SE} {fs : SE} {k : Nat} {a b : List (Str × Int)} (h3 : ρ[3]? = some (some (.own2 (F.map fun l => l.map ltD)))) (ha : fa ρ S = .ok (.val (.int (k : Int))) S) (hF : F[k]? = some a) (hf : fs ρ S = .ok (.own (b.map ltD)) S) (hl : a.length + b.length ≤ 90000) :
  a65 3 fa B6 (i4 fs w3) ρ S = .nx (ρ.set 3 (some (.own2 ((F.set k (a ++ b)).map fun l => l.map ltD)))) S := by
 have hk := (List.getElem?_eq_some_iff.mp hF).1
 have ix : ixN (F.map fun l => l.map ltD).length (k : Int) = some k := by
  rw [List.length_map, U8 (by omega) (by omega)]
  rfl
 have at1 : (F.map fun l => l.map ltD)[k]? = some (a.map ltD) := by rw [List.getElem?_map, hF]; rfl
 have ex : B6 (a.map ltD) [.list (b.map ltD)] = some ((a ++ b).map ltD, .none) := by
  show (if (a.map ltD).length + (b.map ltD).length ≤ sizeLine then some (a.map ltD ++ b.map ltD, PyData.none) else none) = _
  rw [if_pos (by rw [List.length_map, List.length_map]; exact y0 (by omega)), List.map_append]
 have st : (F.map fun l => l.map ltD).set k ((a ++ b).map ltD) = (F.set k (a ++ b)).map fun l => l.map ltD := (List.map_set ..).symm
 rw [← st]
 unfold a65
 rw [h3]
 generalize (a ++ b).map ltD = AB at *
 generalize a.map ltD = A at *
 generalize b.map ltD = B at *
 generalize (F.map fun l => l.map ltD) = FD at *
 simp [ha, ix, at1, hf, ex]
theorem a3f {c : Int} {xs : List Str} {ρ : En} {src : SI} {elt : SE} (hs : src ρ S = .ok (xs.map PyData.str) S) (he : ∀ x, ∃ ρ1, f8 10 (PyData.str x) (t6 ρ [10]) = some ρ1 ∧ elt ρ1 S = .ok (.val (ltD (x, c))) S) :
  cLc src (f8 10) a2o elt [10] ρ S = .ok (.own ((xs.map fun x => (x, c)).map ltD)) S := by
 rw [c1Y, hs]
 simp only [a1g]
 have := W4 (S := S) (b := f8 10) (tt := a2o) (elt := elt) (ρ := t6 ρ [10]) PyData.str (fun _ => true) (fun x => ltD (x, c)) xs fun x _ => by
  obtain ⟨ρ1, e1, e2⟩ := he x
  exact ⟨ρ1, _, e1, rfl, e2, rfl⟩
 rw [this]
 rw [List.filter_eq_self.mpr (fun _ _ => rfl)]
 simp only [a1g, List.map_map]
 rfl
theorem J4 {n j : Nat} (h : j < 33) : (n8 w ls wy n)[j]? = some (n5 w ls wy n j) := by
 unfold n8
 rw [List.getElem?_map, List.getElem?_range h]
 rfl
theorem a64 {n : Nat} (h : n < 30) : (((n8 w ls wy n).set n (n5 w ls wy n n ++ V3 ls wy (n + 1))).set (n + 1) ([] ++ (D5 w ls wy n).map (fun x => (x, (-1 : Int))))).set (n + 1) (([] ++ (D5 w ls wy n).map (fun x => (x, (-1 : Int)))) ++ (a9r w ls wy n).map fun x => (x, (0 : Int))) = n8 w ls wy (n + 1) := by
 have hl : (n8 w ls wy n).length = 33 := by unfold n8; simp
 refine List.ext_getElem? fun j => ?_
 rw [List.getElem?_set, List.getElem?_set, List.getElem?_set, List.length_set, List.length_set, hl]
 by_cases hj : j < 33
 ·rw [J4 hj, J4 hj]
  by_cases q : n + 1 = j
  ·subst q
   rw [if_pos rfl, if_pos hj]
   unfold n5 a7G
   rw [if_pos ⟨by omega, by omega⟩, if_neg (by omega), List.append_nil, List.nil_append]
   rfl
  ·rw [if_neg q, if_neg q]
   by_cases q2 : n = j
   ·subst q2
    rw [if_pos rfl, if_pos hj]
    unfold n5
    rw [if_neg (by omega : ¬ n + 1 ≤ n), if_pos (Nat.le_refl _), List.append_nil]
    by_cases q3 : 1 ≤ n
    ·rw [if_pos ⟨q3, Nat.le_refl _⟩, if_pos ⟨q3, by omega⟩]
    ·rw [if_neg (fun z => q3 z.1), if_neg (fun z => q3 z.1)]
   ·rw [if_neg q2]
    unfold n5
    have e1 : (1 ≤ j ∧ j ≤ n) ↔ (1 ≤ j ∧ j ≤ n + 1) := by omega
    have e2 : (j + 1 ≤ n) ↔ (j + 1 ≤ n + 1) := by omega
    simp only [e1, e2]
 ·have e1 : ∀ m, (n8 w ls wy m)[j]? = none := fun m => List.getElem?_eq_none (by unfold n8; simp; omega)
  rw [e1, e1, if_neg (by omega), if_neg (by omega), if_neg (by omega)]
theorem b2p (k : c2a w ls wy) (hw : w ≤ 100) (hls : ls.length ≤ 100) (hm : ∀ u, mW wy u ≤ 100) {n : Nat} (hn : n < 30) {y6 y7 y8 y9 y10 y11 : Option T} :
  ∃ z6 z7 z8 z9, E0 (b8l w ls wy (n8 w ls wy n) (D5 w ls wy n) (some (.val (.int ((n + 1 : Nat) : Int)))) y6 y7 y8 y9 y10 y11) S = .nx (b8l w ls wy (n8 w ls wy (n + 1)) (D5 w ls wy (n + 1)) (some (.val (.int ((n + 1 : Nat) : Int)))) z6 z7 z8 z9 y10 y11) S := by
 have hlen := k.len
 have hlen2 : n + 1 < wy.length := by omega
 have ew : wy[n + 1]? = some (mW wy (n + 1), lW wy (n + 1)) := by
  unfold mW lW
  rw [List.getElem?_eq_getElem hlen2]
  rfl
 have i1 : gIx (wyD wy) (.int ((n + 1 : Nat) : Int)) = some (.val (c7 ((mW wy (n + 1) : Int), (lW wy (n + 1) : Int)))) := by
  unfold wyD
  rw [E9, C7 (by rw [List.getElem?_map, ew]; rfl)]
  rfl
 have hlc := k.lent (n + 1) (by omega)
 rw [← T3] at hlc
 have hroom := k.room n hn
 have hnl : (nmW ls (n + 1)).length ≤ 100 := by rw [T3]; exact Nat.le_trans List.countP_le_length hls
 have hmm := hm (n + 1)
 have wtl : ∀ n, (D5 w ls wy n).length ≤ 100 := fun n => by
  cases n with
  | zero => exact Nat.zero_le _
  | succ n =>
   show ((nmW ls (n + 1)).drop _).length ≤ 100
   rw [List.length_drop]
   have : (nmW ls (n + 1)).length ≤ 100 := by rw [T3]; exact Nat.le_trans List.countP_le_length hls
   omega
 have ml : E2 (.int (w : Int)) (.int (mW wy (n + 1) : Int)) = some (.val (.int ((w : Int) * (mW wy (n + 1) : Int)))) := Z8 (Q8 (by omega) (by omega)) (Q8 (by omega) (by omega))
 have nmc : ∀ {a0 a2 a3 a4 a6 a7 a8 a9 a10 a11 : Option T},
   cLc (a07 (b7 1)) (a0e 2 (m3 (f8 10) (m3 (f8 11) a0l))) (cB (d5 (gEq false) (b7 11) (b7 5))) (l7 10) [10, 11] [a0, some (.val (.list (ls.map ltD))), a2, a3, a4, some (.val (.int ((n + 1 : Nat) : Int))), a6, a7, a8, a9, a10, a11] S = .ok (.own ((nmW ls (n + 1)).map PyData.str)) S := fun {a0 a2 a3 a4 a6 a7 a8 a9 a10 a11} => by
  have := W4 (S := S) (b := a0e 2 (m3 (f8 10) (m3 (f8 11) a0l))) (tt := cB (d5 (gEq false) (b7 11) (b7 5))) (elt := l7 10) (ρ := [a0, some (.val (.list (ls.map ltD))), a2, a3, a4, some (.val (.int ((n + 1 : Nat) : Int))), a6, a7, a8, a9, none, none]) ltD (fun p => decide (p.2 = ((n + 1 : Nat) : Int))) (fun p => PyData.str p.1) ls fun p _ => by
   refine ⟨_, .val (.str p.1), rfl, ?_, rfl, rfl⟩
   generalize ((n + 1 : Nat) : Int) = N1
   simp
  rw [c1Y]
  have e0 : (a07 (b7 1)) [a0, some (.val (.list (ls.map ltD))), a2, a3, a4, some (.val (.int ((n + 1 : Nat) : Int))), a6, a7, a8, a9, a10, a11] S = .ok (ls.map ltD) S := rfl
  rw [e0]
  simp only [a1g]
  rw [show t6 [a0, some (.val (.list (ls.map ltD))), a2, a3, a4, some (.val (.int ((n + 1 : Nat) : Int))), a6, a7, a8, a9, a10, a11] [10, 11] = [a0, some (.val (.list (ls.map ltD))), a2, a3, a4, some (.val (.int ((n + 1 : Nat) : Int))), a6, a7, a8, a9, none, none] from rfl, this]
  unfold nmW
  simp only [a1g, List.map_map]
  rfl
 have hfl : (n8 w ls wy n).length = 33 := by unfold n8; simp
 have g0 := J4 (w := w) (ls := ls) (wy := wy) (n := n) (j := n) (by omega)
 have g1 := J4 (w := w) (ls := ls) (wy := wy) (n := n) (j := n + 1) (by omega)
 have f1 : n5 w ls wy n (n + 1) = [] := by
  unfold n5
  rw [if_neg (by omega), if_neg (by omega)]
  rfl
 rw [f1] at g1
 have f0l : (n5 w ls wy n n).length ≤ 300 := by
  unfold n5
  rw [if_neg (by omega : ¬ n + 1 ≤ n), List.append_nil]
  split
  ·unfold a7G a9r
   rw [List.length_append, List.length_map, List.length_map, List.length_take, List.length_drop]
   have := wtl (n - 1)
   have : (nmW ls (n - 1 + 1)).length ≤ 100 := by rw [T3]; exact Nat.le_trans List.countP_le_length hls
   omega
  ·exact Nat.zero_le _
 have own0 : ((w : Int) * (mW wy (n + 1) : Int)) - ((D5 w ls wy n).length : Int) = ((w * mW wy (n + 1) - (D5 w ls wy n).length : Nat) : Int) := by
  rw [Int.ofNat_sub hroom, Int.natCast_mul]
 have lo : (lW wy (n + 1) : Int) + ((w * mW wy (n + 1) - (D5 w ls wy n).length : Nat) : Int) = ((lW wy (n + 1) + (w * mW wy (n + 1) - (D5 w ls wy n).length) : Nat) : Int) := by omega
 have lenw : X3 [.list ((D5 w ls wy n).map PyData.str)] = some (.val (.int ((D5 w ls wy n).length : Int))) := by rw [w7, List.length_map]
 have sl1 : gSl (.list ((nmW ls (n + 1)).map PyData.str)) none (some (lW wy (n + 1) : Int)) = some (.own (((nmW ls (n + 1)).take (lW wy (n + 1))).map PyData.str)) := by
  rw [a2i, b8Q (by rw [List.length_map]; exact hlc), List.map_take]
 have sl2 : gSl (.list ((nmW ls (n + 1)).map PyData.str)) (some (lW wy (n + 1) : Int)) (some ((lW wy (n + 1) + (w * mW wy (n + 1) - (D5 w ls wy n).length) : Nat) : Int)) = some (.own ((a9r w ls wy n).map PyData.str)) := by
  rw [a2i, a71 (by rw [List.length_map]; exact hlc) (by omega), Nat.add_sub_cancel_left]
  unfold a9r
  rw [List.map_take, List.map_drop]
 have sl3 : gSl (.list ((nmW ls (n + 1)).map PyData.str)) (some ((lW wy (n + 1) + (w * mW wy (n + 1) - (D5 w ls wy n).length) : Nat) : Int)) none = some (.own ((D5 w ls wy (n + 1)).map PyData.str)) := by
  rw [a2i, b4t]
  show _ = some (T.own (((nmW ls (n + 1)).drop (lW wy (n + 1) + (w * mW wy (n + 1) - (D5 w ls wy n).length))).map PyData.str))
  rw [List.map_drop]
 refine ⟨some (.val (.int (mW wy (n + 1) : Int))), some (.val (.int (lW wy (n + 1) : Int))), some (.own ((nmW ls (n + 1)).map PyData.str)), some (.val (.int ((w * mW wy (n + 1) - (D5 w ls wy n).length : Nat) : Int))), ?_⟩
 unfold E0 b8l
 refine b8 (ρ1 := [some (.val (.int (w : Int))), some (.val (.list (ls.map ltD))), some (.val (wyD wy)), some (.own2 ((n8 w ls wy n).map fun l => l.map ltD)), some (.own ((D5 w ls wy n).map PyData.str)), some (.val (.int ((n + 1 : Nat) : Int))), some (.val (.int (mW wy (n + 1) : Int))), some (.val (.int (lW wy (n + 1) : Int))), y8, y9, y10, y11]) (S1 := S) (by
  generalize ((n + 1 : Nat) : Int) = N1 at *
  generalize wyD wy = WD at *
  generalize ls.map ltD = LS at *
  simp [i1, c7]) ?_
 refine b8 (ρ1 := [some (.val (.int (w : Int))), some (.val (.list (ls.map ltD))), some (.val (wyD wy)), some (.own2 ((n8 w ls wy n).map fun l => l.map ltD)), some (.own ((D5 w ls wy n).map PyData.str)), some (.val (.int ((n + 1 : Nat) : Int))), some (.val (.int (mW wy (n + 1) : Int))), some (.val (.int (lW wy (n + 1) : Int))), some (.own ((nmW ls (n + 1)).map PyData.str)), y9, y10, y11]) (S1 := S) (by
  rw [b6Y, c06, nmc]
  rfl) ?_
 refine b8 (a27 (S := S) (k := n) (a := n5 w ls wy n n) (b := V3 ls wy (n + 1)) rfl (by
   show (R.d (.ok (.val (.int ((n + 1 : Nat) : Int))) S) fun a S1 => R.d (.ok (.val (.int 1)) S1) fun b S2 => match gSub a b with | some t => .ok t S2 | none => .bad) = _
   simp) g0 (by
   unfold V3
   refine a3f (by
    rw [a9A]
    generalize wyD wy = WD at *
    generalize ls.map ltD = LS at *
    generalize (nmW ls (n + 1)).map PyData.str = NM at *
    generalize ((nmW ls (n + 1)).take (lW wy (n + 1))).map PyData.str = NL at *
    simp [sl1]) (fun x => ⟨_, rfl, by simp [ltD]⟩)) (by
   unfold V3
   rw [List.length_map, List.length_take]
   omega)) ?_
 rw [show ∀ (a b c d e f g h i j k l x : Option T), [a, b, c, d, e, f, g, h, i, j, k, l].set 3 x = [a, b, c, x, e, f, g, h, i, j, k, l] from fun _ _ _ _ _ _ _ _ _ _ _ _ _ => rfl]
 refine b8 (a27 (S := S) (k := n + 1) (a := []) (b := (D5 w ls wy n).map (fun x => (x, (-1 : Int)))) rfl (by rfl) (by
   rw [List.getElem?_set, if_neg (by omega), g1]) (by
   refine a3f (by
    rw [a9A]
    generalize wyD wy = WD at *
    generalize ls.map ltD = LS at *
    generalize (nmW ls (n + 1)).map PyData.str = NM at *
    generalize (D5 w ls wy n).map PyData.str = WT at *
    simp) (fun x => ⟨_, rfl, by simp [ltD]⟩)) (by
   rw [List.length_map]
   have := wtl n
   simp
   omega)) ?_
 rw [show ∀ (a b c d e f g h i j k l x : Option T), [a, b, c, d, e, f, g, h, i, j, k, l].set 3 x = [a, b, c, x, e, f, g, h, i, j, k, l] from fun _ _ _ _ _ _ _ _ _ _ _ _ _ => rfl]
 refine b8 (ρ1 := [some (.val (.int (w : Int))), some (.val (.list (ls.map ltD))), some (.val (wyD wy)), some (.own2 ((((n8 w ls wy n).set n (n5 w ls wy n n ++ V3 ls wy (n + 1))).set (n + 1) ([] ++ (D5 w ls wy n).map (fun x => (x, (-1 : Int))))).map fun l => l.map ltD)), some (.own ((D5 w ls wy n).map PyData.str)), some (.val (.int ((n + 1 : Nat) : Int))), some (.val (.int (mW wy (n + 1) : Int))), some (.val (.int (lW wy (n + 1) : Int))), some (.own ((nmW ls (n + 1)).map PyData.str)), some (.val (.int ((w * mW wy (n + 1) - (D5 w ls wy n).length : Nat) : Int))), y10, y11]) (S1 := S) (by
  rw [← own0]
  generalize wyD wy = WD at *
  generalize ls.map ltD = LS at *
  generalize (nmW ls (n + 1)).map PyData.str = NM at *
  generalize (((n8 w ls wy n).set n (n5 w ls wy n n ++ V3 ls wy (n + 1))).set (n + 1) ([] ++ (D5 w ls wy n).map (fun x => (x, (-1 : Int))))).map (fun l => l.map ltD) = FD at *
  generalize (D5 w ls wy n).map PyData.str = WT at *
  simp [ml, lenw, -w7]) ?_
 refine b8 (a27 (S := S) (k := n + 1) (a := [] ++ (D5 w ls wy n).map (fun x => (x, (-1 : Int)))) (b := (a9r w ls wy n).map fun x => (x, (0 : Int))) rfl (by rfl) (by
   rw [List.getElem?_set, if_pos rfl, if_pos (by rw [List.length_set, hfl]; omega)]) (by
   refine a3f (by
    rw [a9A]
    generalize wyD wy = WD at *
    generalize ls.map ltD = LS at *
    generalize (((n8 w ls wy n).set n (n5 w ls wy n n ++ V3 ls wy (n + 1))).set (n + 1) ([] ++ (D5 w ls wy n).map (fun x => (x, (-1 : Int))))).map (fun l => l.map ltD) = FD at *
    generalize (nmW ls (n + 1)).map PyData.str = NM at *
    generalize (D5 w ls wy n).map PyData.str = WT at *
    generalize (a9r w ls wy n).map PyData.str = OW at *
    generalize w * mW wy (n + 1) - (D5 w ls wy n).length = OO at *
    rw [← lo] at sl2
    simp [sl2]) (fun x => ⟨_, rfl, by simp [ltD]⟩)) (by
   rw [List.length_append, List.length_map, List.length_map]
   have := wtl n
   have : (a9r w ls wy n).length ≤ 100 := by
    unfold a9r
    rw [List.length_take, List.length_drop]
    omega
   simp
   omega)) ?_
 rw [show ∀ (a b c d e f g h i j k l x : Option T), [a, b, c, d, e, f, g, h, i, j, k, l].set 3 x = [a, b, c, x, e, f, g, h, i, j, k, l] from fun _ _ _ _ _ _ _ _ _ _ _ _ _ => rfl]
 rw [a64 hn]
 generalize wyD wy = WD at *
 generalize ls.map ltD = LS at *
 generalize (n8 w ls wy (n + 1)).map (fun l => l.map ltD) = FD at *
 generalize (nmW ls (n + 1)).map PyData.str = NM at *
 generalize (D5 w ls wy (n + 1)).map PyData.str = W2 at *
 generalize (D5 w ls wy n).map PyData.str = WT at *
 generalize w * mW wy (n + 1) - (D5 w ls wy n).length = OO at *
 rw [← lo] at sl3
 simp [sl3]
theorem a2B (k : c2a w ls wy) (hw : w ≤ 100) (hls : ls.length ≤ 100) (hm : ∀ u, mW wy u ≤ 100) :
  v8 [.val (.int (w : Int)), .val (.list (ls.map ltD)), .val (wyD wy)] S = .ok (.val (.list ((n8 w ls wy 30).map fun l => .list (l.map ltD)))) S := by
 obtain ⟨ρ', S', e, rfl, y5, y6, y7, y8, y9, rfl⟩ := D7 (b := f8 5) (body := E0) (fun i ρ S' => S' = S ∧ ∃ y5 y6 y7 y8 y9, ρ = b8l w ls wy (n8 w ls wy i) (D5 w ls wy i) y5 y6 y7 y8 y9 none none)
  (j8 1 30) 0 (b8l w ls wy (n8 w ls wy 0) (D5 w ls wy 0) none none none none none none none) S ⟨rfl, none, none, none, none, none, rfl⟩ (by
   rintro i d ρ S' hd ⟨rfl, y5, y6, y7, y8, y9, rfl⟩
   obtain ⟨hi, rfl⟩ := T7 hd
   rw [Nat.zero_add]
   obtain ⟨z6, z7, z8, z9, et⟩ := b2p (S := S') k hw hls hm (n := i) hi (y6 := y6) (y7 := y7) (y8 := y8) (y9 := y9) (y10 := none) (y11 := none)
   rw [Nat.add_comm 1 i]
   exact ⟨_, rfl, _, S', .inl et, rfl, _, z6, z7, z8, z9, rfl⟩)
 rw [Nat.zero_add, E4] at e
 have hlen := k.len
 have gr : a3p [.int 1, .int 31] = some (j8 1 30) := a6w (n := 30) (by omega)
 have f0 : (n8 w ls wy 0).map (fun l => l.map ltD) = List.replicate 31 [] ++ [[], []] := by
  have : n8 w ls wy 0 = List.replicate 33 [] := by
   unfold n8
   rw [List.eq_replicate_iff]
   refine ⟨by simp, fun b hb => ?_⟩
   obtain ⟨j, _, rfl⟩ := List.mem_map.mp hb
   unfold n5
   rw [if_neg (by omega), if_neg (by omega)]
   rfl
  rw [this]
  rfl
 have lc : b0f (a0e 2 (m3 (f8 6) (m3 (f8 7) a0l))) a2o (t9 l8) [some (.val (.int (w : Int))), some (.val (.list (ls.map ltD))), some (.val (wyD wy)), none, none, none, none, none, none, none, none, none] (wy.map fun p => c7 ((p.1 : Int), (p.2 : Int))) S' = .ok (List.replicate 31 []) S' := by
  have key : ∀ (wy' : List (Nat × Nat)), b0f (a0e 2 (m3 (f8 6) (m3 (f8 7) a0l))) a2o (t9 l8) [some (.val (.int (w : Int))), some (.val (.list (ls.map ltD))), some (.val (wyD wy)), none, none, none, none, none, none, none, none, none] (wy'.map fun p => c7 ((p.1 : Int), (p.2 : Int))) S' = .ok (List.replicate wy'.length []) S' := by
   intro wy'
   induction wy' with
   | nil => rfl
   | cons p wy' ih =>
    rw [List.map_cons]
    unfold b0f
    have e1 : a0e 2 (m3 (f8 6) (m3 (f8 7) a0l)) (c7 ((p.1 : Int), (p.2 : Int))) [some (.val (.int (w : Int))), some (.val (.list (ls.map ltD))), some (.val (wyD wy)), none, none, none, none, none, none, none, none, none] = some [some (.val (.int (w : Int))), some (.val (.list (ls.map ltD))), some (.val (wyD wy)), none, none, none, some (.val (.int (p.1 : Int))), some (.val (.int (p.2 : Int))), none, none, none, none] := rfl
    rw [e1]
    simp [a2o, ih, List.replicate_succ]
  rw [key, hlen]
 have em : ((n8 w ls wy 30).map (fun l => l.map ltD)).map PyData.list = (n8 w ls wy 30).map fun l => .list (l.map ltD) := by rw [List.map_map]; rfl
 unfold v8
 refine E1 ?_
 unfold M3
 unfold b8l at e
 rw [f0] at e
 have w0 : (D5 w ls wy 0).map PyData.str = [] := rfl
 rw [w0] at e
 have wd : b8h (wyD wy) = some (wy.map fun p => c7 ((p.1 : Int), (p.2 : Int))) := rfl
 rw [← em]
 generalize (n8 w ls wy 30).map (fun l => l.map ltD) = FD at *
 generalize (wy.map fun p => c7 ((p.1 : Int), (p.2 : Int))) = WL at *
 generalize wyD wy = WD at *
 generalize ls.map ltD = LS at *
 generalize (D5 w ls wy 30).map PyData.str = W2 at *
 refine b8 (ρ1 := [some (.val (.int (w : Int))), some (.val (.list LS)), some (.val WD), some (.own2 (List.replicate 31 [] ++ [[], []])), none, none, none, none, none, none, none, none]) (S1 := S') (by
  simp only [b6Y, c06, b9Z, c1M, a9A, c0c, b7F]
  simp [wd, t6, lc]) ?_
 generalize (List.replicate 31 ([] : List D) ++ [[], []]) = Z at *
 refine b8 (ρ1 := [some (.val (.int (w : Int))), some (.val (.list LS)), some (.val WD), some (.own2 Z), some (.own []), none, none, none, none, none, none, none]) (S1 := S') (by simp) ?_
 refine b8 (ρ1 := [some (.val (.int (w : Int))), some (.val (.list LS)), some (.val WD), some (.own2 FD), some (.own W2), y5, y6, y7, y8, y9, none, none]) (S1 := S') (by simp [gr, e]) ?_
 simp
end
end BV
namespace BV
open PySem L2
theorem b4g {α : Type} {xs : List α} {i j : Nat} (hj : i ≤ j) : a19 xs (some (i : Int)) (some (j : Int)) = (xs.drop i).take (j - i) := by
 by_cases h : i ≤ xs.length
 ·exact a71 h hj
 ·unfold a19
  rw [HT.sIx_nat, HT.sIx_nat, Nat.min_eq_right (by omega), Nat.min_eq_right (by omega), List.drop_length, List.drop_eq_nil_of_le (by omega), List.take_nil, List.take_nil]
def a1r (w : Nat) (cells : List (Str × Int)) (k : Nat) : List e9 := ((cells.drop (k * w)).take w).map some ++ List.replicate (w - ((cells.drop (k * w)).take w).length) none
theorem a8u (w : Nat) (cells : List (Str × Int)) (k : Nat) : (a1r w cells k).length = w := by
 unfold a1r
 rw [List.length_append, List.length_map, List.length_replicate]
 have : ((cells.drop (k * w)).take w).length ≤ w := List.length_take_le ..
 omega
def m4 (r : List e9) : D := .list (r.map p7)
section
variable {S : Sto}
theorem a9O {w m : Nat} {cells : List (Str × Int)} (hw : w ≤ 100) (hm : m ≤ 100) (hc : cells.length ≤ 1000) :
  q9 [.val (.int (w : Int)), .val (.list (cells.map ltD)), .val (.int (m : Int))] S = .ok (.own (((List.range m).map (a1r w cells)).map m4)) S := by
 obtain ⟨ρ', S', e, rfl, y4, y5, rfl⟩ := D7 (b := f8 4) (body := E6) (fun i ρ S' => S' = S ∧ ∃ y4 y5, ρ = [some (.val (.int (w : Int))), some (.val (.list (cells.map ltD))), some (.val (.int (m : Int))), some (.own (((List.range i).map (a1r w cells)).map m4)), y4, y5])
  (j8 0 m) 0 [some (.val (.int (w : Int))), some (.val (.list (cells.map ltD))), some (.val (.int (m : Int))), some (.own []), none, none] S ⟨rfl, none, none, rfl⟩ (by
   rintro i d ρ S' hd ⟨rfl, y4, y5, rfl⟩
   obtain ⟨hi, rfl⟩ := J8 hd
   rw [Nat.zero_add]
   have m1 : E2 (.int (i : Int)) (.int (w : Int)) = some (.val (.int ((i * w : Nat) : Int))) := by
    rw [Z8 (Q8 (by omega) (by omega)) (Q8 (by omega) (by omega)), Int.natCast_mul]
   have m2 : E2 (.int ((i : Int) + 1)) (.int (w : Int)) = some (.val (.int (((i + 1) * w : Nat) : Int))) := by
    rw [Z8 (Q8 (by omega) (by omega)) (Q8 (by omega) (by omega)), Int.natCast_mul]
    rfl
   have sl : gSl (.list (cells.map ltD)) (some ((i * w : Nat) : Int)) (some (((i + 1) * w : Nat) : Int)) = some (.own (((cells.drop (i * w)).take w).map ltD)) := by
    have e1 : (i + 1) * w - i * w = w := by rw [Nat.succ_mul]; omega
    rw [a2i, b4g (by rw [Nat.succ_mul]; omega), e1, List.map_take, List.map_drop]
   have tl : ((cells.drop (i * w)).take w).length ≤ w := List.length_take_le ..
   have ln : X3 [.list (((cells.drop (i * w)).take w).map ltD)] = some (.val (.int (((cells.drop (i * w)).take w).length : Int))) := by rw [w7, List.length_map]
   have rp : E2 (.list [PyData.none]) (.int ((w : Int) - (((cells.drop (i * w)).take w).length : Int))) = some (.own (List.replicate (w - ((cells.drop (i * w)).take w).length) PyData.none)) := by
    rw [show (w : Int) - (((cells.drop (i * w)).take w).length : Int) = ((w - ((cells.drop (i * w)).take w).length : Nat) : Int) by omega, b4j (by omega) (by simp only [List.length_singleton]; rw [sizeLine_eq]; omega), V9]
   have ad : w9 (.list (((cells.drop (i * w)).take w).map ltD)) (.list (List.replicate (w - ((cells.drop (i * w)).take w).length) PyData.none)) = some (.own ((a1r w cells i).map p7)) := by
    rw [b1u (by rw [List.length_map, List.length_replicate, sizeLine_eq]; omega)]
    unfold a1r
    rw [List.map_append, List.map_map, List.map_replicate]
    rfl
   have ap : w5 (((List.range i).map (a1r w cells)).map m4) [.list ((a1r w cells i).map p7)] = some (((List.range (i + 1)).map (a1r w cells)).map m4, .none) := by
    have := Y0 m4 (acc := (List.range i).map (a1r w cells)) (x := a1r w cells i) (by simp; omega)
    rw [List.range_succ, List.map_append]
    exact this
   refine ⟨_, rfl, [some (.val (.int (w : Int))), some (.val (.list (cells.map ltD))), some (.val (.int (m : Int))), some (.own (((List.range (i + 1)).map (a1r w cells)).map m4)), some (.val (.int (i : Int))), some (.own (((cells.drop (i * w)).take w).map ltD))], S', .inl ?_, rfl, _, _, rfl⟩
   unfold E6
   generalize ((List.range (i + 1)).map (a1r w cells)).map m4 = R2 at *
   generalize ((List.range i).map (a1r w cells)).map m4 = R1 at *
   generalize (a1r w cells i).map p7 = RD at *
   generalize ((cells.drop (i * w)).take w).length = TL at *
   generalize ((cells.drop (i * w)).take w).map ltD = TK at *
   generalize cells.map ltD = CD at *
   generalize ((i * w : Nat) : Int) = A1 at *
   generalize (((i + 1) * w : Nat) : Int) = A2 at *
   refine b8 (ρ1 := [some (.val (.int (w : Int))), some (.val (.list CD)), some (.val (.int (m : Int))), some (.own R1), some (.val (.int (i : Int))), some (.own TK)]) (S1 := S') (by simp [m1, m2, sl, -a2i]) ?_
   simp [ln, rp, ad, ap, -w7])
 rw [Nat.zero_add, E4] at e
 have gr := a0a (n := m) (y0 (by omega))
 unfold q9
 refine E1 ?_
 unfold G1
 generalize ((List.range m).map (a1r w cells)).map m4 = R at *
 generalize cells.map ltD = CD at *
 refine b8 (ρ1 := [some (.val (.int (w : Int))), some (.val (.list CD)), some (.val (.int (m : Int))), some (.own []), none, none]) (S1 := S') (by simp) ?_
 refine b8 (ρ1 := [some (.val (.int (w : Int))), some (.val (.list CD)), some (.val (.int (m : Int))), some (.own R), y4, y5]) (S1 := S') (by simp [gr, e]) ?_
 simp
def P4 : List e9 → List e9
 | [] => []
 | none :: r => some (blank, 0) :: r
 | some x :: r => some x :: P4 r
def wbP : Bool → List (List e9) → List (List e9)
 | _, [] => []
 | true, r :: rs => r :: wbP true rs
 | false, r :: rs => if none ∈ r then P4 r :: wbP true rs else r :: wbP false rs
theorem b4p (rs : List (List e9)) : wbP true rs = rs := by
 induction rs with
 | nil => rfl
 | cons r rs ih => show r :: wbP true rs = _; rw [ih]
theorem a7N (c : e9) : PyData.eqv (p7 c) .none = c.isNone := by
 cases c with
 | none => rfl
 | some p => obtain ⟨x, i⟩ := p; rfl
theorem a7X (r : List e9) : N3 (.list (r.map p7)) = true := (a0n p7 b4l (fun c => Nat.le_trans (b4x c) (by omega)) r).1
theorem b4G (r : List e9) : gIn false .none (.list (r.map p7)) = some (.val (.bool (decide (none ∈ r)))) := by
 rw [c0g rfl (a7X r)]
 congr 3
 rw [if_neg (by simp), Bool.eq_iff_iff, List.any_eq_true, decide_eq_true_eq]
 constructor
 ·rintro ⟨d, hd, e⟩
  obtain ⟨c, hc, rfl⟩ := List.mem_map.mp hd
  rw [a7N] at e
  cases c with
  | none => exact hc
  | some _ => cases e
 ·exact fun h => ⟨_, List.mem_map.mpr ⟨none, h, rfl⟩, rfl⟩
theorem a13 : ∀ {r : List e9}, none ∈ r → ∃ j, M8 .none (r.map p7) = some j ∧ (r.map p7).set j (p7 (some (blank, 0))) = (P4 r).map p7 ∧ j < r.length
 | [], h => nomatch h
 | none :: r, _ => ⟨0, rfl, rfl, by simp⟩
 | some p :: r, h => by
  have h' : none ∈ r := by
   rcases List.mem_cons.mp h with e | h
   ·cases e
   ·exact h
  obtain ⟨j, e1, e2, e3⟩ := a13 h'
  refine ⟨j + 1, ?_, ?_, by rw [List.length_cons]; omega⟩
  ·rw [List.map_cons]
   unfold M8
   rw [a7N]
   simp [e1]
  ·rw [List.map_cons, List.set_cons_succ, e2]
   rfl
theorem a9K {rows : List (List e9)} (hr : rows.length ≤ 100) (hrl : ∀ r ∈ rows, r.length ≤ 100) :
  w4 [.val (.list (rows.map m4))] S = .ok (.val (.tuple ((wbP false rows).map E7))) S := by
 have run : ∀ (rs : List (List e9)) (done : List (List e9)) (b : Bool) (y3 y4 : Option T), done.length + rs.length ≤ 100 → (∀ r ∈ rs, r.length ≤ 100) →
   ∃ b' z3 z4, Y3 (f8 3) v9 (rs.map m4) [some (.val (.list (rows.map m4))), some (.own (done.map E7)), some (.val (.bool b)), y3, y4] S = .nx [some (.val (.list (rows.map m4))), some (.own ((done ++ wbP b rs).map E7)), some (.val (.bool b')), z3, z4] S := by
  intro rs
  induction rs with
  | nil =>
   intro done b y3 y4 _ _
   refine ⟨b, y3, y4, ?_⟩
   have : wbP b [] = [] := by cases b <;> rfl
   rw [this, List.append_nil]
   rfl
  | cons r rs ih =>
   intro done b y3 y4 hl hrl
   rw [List.length_cons] at hl
   have turn : ∃ (r' : List e9) (b' : Bool) (z4 : Option T), wbP b (r :: rs) = r' :: wbP b' rs ∧ v9 [some (.val (.list (rows.map m4))), some (.own (done.map E7)), some (.val (.bool b)), some (.val (m4 r)), y4] S = .nx [some (.val (.list (rows.map m4))), some (.own ((done ++ [r']).map E7)), some (.val (.bool b')), some (.val (m4 r)), z4] S := by
    have li : a4K [m4 r] = some (.own (r.map p7)) := rfl
    have ap : ∀ r', w5 (done.map E7) [.tuple (r'.map p7)] = some ((done ++ [r']).map E7, .none) := fun r' => Y0 E7 (x := r') (by omega)
    have nr := b4G r
    have plain : b = true ∨ none ∉ r → v9 [some (.val (.list (rows.map m4))), some (.own (done.map E7)), some (.val (.bool b)), some (.val (m4 r)), y4] S = .nx [some (.val (.list (rows.map m4))), some (.own ((done ++ [r]).map E7)), some (.val (.bool b)), some (.val (m4 r)), some (.own (r.map p7))] S := fun hb => by
     have ap := ap r
     unfold v9
     generalize (done ++ [r]).map E7 = D2 at *
     generalize done.map E7 = D1 at *
     generalize rows.map m4 = RD at *
     generalize r.map p7 = RC at *
     generalize m4 r = RL at *
     refine b8 (ρ1 := [some (.val (.list RD)), some (.own D1), some (.val (.bool b)), some (.val RL), some (.own RC)]) (S1 := S) (by simp [li]) ?_
     refine b8 (ρ1 := [some (.val (.list RD)), some (.own D1), some (.val (.bool b)), some (.val RL), some (.own RC)]) (S1 := S) ?_ (by simp [ap])
     rcases hb with rfl | hb
     ·simp
     ·cases b with
      | true => simp
      | false => simp [nr, hb]
    cases b with
    | true => exact ⟨r, true, _, rfl, plain (.inl rfl)⟩
    | false =>
     by_cases hn : none ∈ r
     ·obtain ⟨j, e1, e2, e3⟩ := a13 hn
      refine ⟨P4 r, true, some (.own ((P4 r).map p7)), by show (if none ∈ r then _ else _) = _; rw [if_pos hn], ?_⟩
      have ix : a24 (.list (r.map p7)) [.none] = some (.val (.int (j : Int))) := by
       show (if N3 (.list (r.map p7)) && N3 .none then (M8 .none (r.map p7)).map fun j => T.val (.int (j : Nat)) else none) = _
       rw [a7X, e1]
       rfl
      have ij : ixN (r.map p7).length (j : Int) = some j := by
       rw [List.length_map, U8 (by omega) (by omega)]
       rfl
      have bl : PyData.tuple [.str " ", .int 0] = p7 (some (blank, 0)) := rfl
      have ap := ap (P4 r)
      rw [decide_eq_true hn] at nr
      unfold v9
      generalize (done ++ [P4 r]).map E7 = D2 at *
      generalize done.map E7 = D1 at *
      generalize rows.map m4 = RD at *
      generalize (P4 r).map p7 = RF at *
      generalize r.map p7 = RC at *
      generalize m4 r = RL at *
      generalize p7 (some (blank, 0)) = BD at *
      refine b8 (ρ1 := [some (.val (.list RD)), some (.own D1), some (.val (.bool false)), some (.val RL), some (.own RC)]) (S1 := S) (by simp [li]) ?_
      refine b8 (ρ1 := [some (.val (.list RD)), some (.own D1), some (.val (.bool true)), some (.val RL), some (.own RF)]) (S1 := S) ?_ (by simp [ap])
      refine b0n (S1 := S) (by simp [nr]) ?_
      simp [ix, ij, bl, e2]
     ·exact ⟨r, false, _, by show (if none ∈ r then _ else _) = _; rw [if_neg hn], plain (.inr hn)⟩
   obtain ⟨r', b', z4, ew, et⟩ := turn
   obtain ⟨b2, z3, z4', e2⟩ := ih (done ++ [r']) b' (some (.val (m4 r))) z4 (by rw [List.length_append]; simp; omega) fun q hq => hrl q (List.mem_cons_of_mem _ hq)
   refine ⟨b2, z3, z4', ?_⟩
   rw [List.map_cons]
   unfold Y3
   rw [show f8 3 (m4 r) [some (.val (.list (rows.map m4))), some (.own (done.map E7)), some (.val (.bool b)), y3, y4] = some [some (.val (.list (rows.map m4))), some (.own (done.map E7)), some (.val (.bool b)), some (.val (m4 r)), y4] from rfl]
   simp only [et, e2, ew]
   rw [List.append_assoc]
   rfl
 obtain ⟨b', z3, z4, e⟩ := run rows [] false none none (by simpa using hr) hrl
 rw [List.nil_append, List.map_nil] at e
 unfold w4
 refine E1 ?_
 unfold O7
 generalize (wbP false rows).map E7 = W at *
 generalize rows.map m4 = RD at *
 refine b8 (ρ1 := [some (.val (.list RD)), some (.own []), none, none, none]) (S1 := S) (by simp) ?_
 refine b8 (ρ1 := [some (.val (.list RD)), some (.own []), some (.val (.bool false)), none, none]) (S1 := S) (by simp) ?_
 refine b8 (ρ1 := [some (.val (.list RD)), some (.own W), some (.val (.bool b')), z3, z4]) (S1 := S) (by simp [e]) ?_
 simp
end
end BV
namespace BV
open PySem L2
structure b8E (w h : Int) (cs : List Nat) (ps : List (Int × Int)) (sts : Nat → Int × Int) (cc : Nat → Int) (v : Nat) (m l a dc : Int) : Prop where
 get : ps[v]? = some (m, l)
 m0 : 0 ≤ m
 l0 : 0 ≤ l
 mh : (sts v).1 + m ≤ h
 lc : l ≤ ct cs (v + 1)
 ls : l ≤ max 0 (sts v).2
 on : onP w (ct cs (v + 1)) (ct cs (v + 2)) (sts v).2 m l = some (a, dc)
 nx : sts (v + 1) = ((sts v).1 + m, a)
 nc : cc (v + 1) = cc v + dc
theorem Way.idx {w h : Int} {cs : List Nat} {u : Nat} {st : Int × Int} {c : Int} {ps : List (Int × Int)} (y : Way w h cs u st c ps) :
  ps.length = u ∧ ∃ (sts : Nat → Int × Int) (cc : Nat → Int), sts 0 = (0, 0) ∧ cc 0 = 0 ∧ sts u = st ∧ cc u = c ∧ ∀ v < u, ∃ m l a dc, b8E w h cs ps sts cc v m l a dc := by
 induction y with
 | zero => exact ⟨rfl, fun _ => (0, 0), fun _ => 0, rfl, rfl, rfl, rfl, fun v hv => by omega⟩
 | @succ u st c ps m l a dc y m0 l0 mh lc ls eo ih =>
  obtain ⟨hl, sts, cc, h0, c0, hu, cu, hst⟩ := ih
  refine ⟨by rw [List.length_append, hl]; rfl, fun v => if v = u + 1 then (st.1 + m, a) else sts v, fun v => if v = u + 1 then c + dc else cc v, ?_, ?_, if_pos rfl, if_pos rfl, fun v hv => ?_⟩
  ·show (if 0 = u + 1 then _ else sts 0) = _
   rw [if_neg (by omega)]; exact h0
  ·show (if 0 = u + 1 then _ else cc 0) = _
   rw [if_neg (by omega)]; exact c0
  ·by_cases q : v = u
   ·subst q
    refine ⟨m, l, a, dc, ⟨by rw [List.getElem?_append_right (by omega), hl]; simp, m0, l0, ?_, lc, ?_, ?_, ?_, ?_⟩⟩
    ·show (if v = v + 1 then _ else sts v).1 + m ≤ h
     rw [if_neg (by omega), hu]; exact mh
    ·show l ≤ max 0 (if v = v + 1 then _ else sts v).2
     rw [if_neg (by omega), hu]; exact ls
    ·show onP w _ _ (if v = v + 1 then _ else sts v).2 m l = _
     rw [if_neg (by omega), hu]; exact eo
    ·show (if v + 1 = v + 1 then _ else _) = ((if v = v + 1 then _ else sts v).1 + m, a)
     rw [if_pos rfl, if_neg (by omega), hu]
    ·show (if v + 1 = v + 1 then _ else _) = (if v = v + 1 then _ else cc v) + dc
     rw [if_pos rfl, if_neg (by omega), cu]
   ·obtain ⟨m', l', a', dc', g, g1, g2, g3, g4, g5, g6, g7, g8⟩ := hst v (by omega)
    refine ⟨m', l', a', dc', ⟨by rw [List.getElem?_append_left (by omega)]; exact g, g1, g2, ?_, g4, ?_, ?_, ?_, ?_⟩⟩
    ·show (if v = u + 1 then _ else sts v).1 + m' ≤ h
     rw [if_neg (by omega)]; exact g3
    ·show l' ≤ max 0 (if v = u + 1 then _ else sts v).2
     rw [if_neg (by omega)]; exact g5
    ·show onP w _ _ (if v = u + 1 then _ else sts v).2 m' l' = _
     rw [if_neg (by omega)]; exact g6
    ·show (if v + 1 = u + 1 then _ else sts (v + 1)) = ((if v = u + 1 then _ else sts v).1 + m', a')
     rw [if_neg (by omega), if_neg (by omega)]; exact g7
    ·show (if v + 1 = u + 1 then _ else cc (v + 1)) = (if v = u + 1 then _ else cc v) + dc'
     rw [if_neg (by omega), if_neg (by omega)]; exact g8
def a1A (ps : List (Int × Int)) : List (Nat × Nat) := (0, 0) :: ps.map fun p => (p.1.toNat, p.2.toNat)
structure a7C (w h : Nat) (ls : List (Str × Int)) (wy : List (Nat × Nat)) (c : Int) : Prop where
 ok : c2a w ls wy
 fit : ∀ j, 1 ≤ j → j ≤ 30 → (n5 w ls wy 30 j).length ≤ w * mW wy j
 rows : ((List.range 30).map fun u => mW wy (u + 1)).sum ≤ h
 cams : c = ((((List.range 30).map fun u => (D5 w ls wy u).length + lW wy (u + 1)).sum : Nat) : Int)
 end_ : D5 w ls wy 30 = []
 first : lW wy 1 = 0
 zero : mW wy 0 = 0
theorem a4E {ps : List (Int × Int)} {v : Nat} {m l : Int} (h : ps[v]? = some (m, l)) : mW (a1A ps) (v + 1) = m.toNat ∧ lW (a1A ps) (v + 1) = l.toNat := by
 unfold mW lW a1A
 rw [List.getElem?_cons_succ, List.getElem?_map, h]
 exact ⟨rfl, rfl⟩
theorem b9G {w h : Nat} {ls : List (Str × Int)} {st : Int × Int} {c : Int} {ps : List (Int × Int)} (y : Way (w : Int) (h : Int) (o9 ls) 30 st c ps) (hs : 0 ≤ st.2) (hh : st.1 ≤ (h : Int)) : a7C w h ls (a1A ps) c := by
 obtain ⟨hl, sts, cc, h0, c0, hu, cu, hst⟩ := y.idx
 have wl : ∀ v, v ≤ 30 → ((D5 w ls (a1A ps) v).length : Int) = wt (sts v).2 := by
  intro v
  induction v with
  | zero => intro _; rw [h0]; rfl
  | succ v ih =>
   intro hv
   have ih := ih (by omega)
   obtain ⟨m, l, a, dc, g⟩ := hst v (by omega)
   obtain ⟨e1, e2⟩ := a4E g.get
   have on := g.on
   rw [a2f (by omega)] at on
   have lc := g.lc
   rw [a2f (by omega)] at lc
   have m0 := g.m0
   have l0 := g.l0
   unfold onP at on
   split at on
   ·cases on
   ·rename_i hr
    injection on with on
    injection on with ea edc
    rw [g.nx]
    show (((nmW ls (v + 1)).drop (lW (a1A ps) (v + 1) + (w * mW (a1A ps) (v + 1) - (D5 w ls (a1A ps) v).length))).length : Int) = wt a
    rw [List.length_drop, T3, e1, e2]
    have hc0 := A7 (o9 ls) (v + 2)
    have hmm : ((w * m.toNat : Nat) : Int) = (w : Int) * m := by rw [Int.natCast_mul, Int.toNat_of_nonneg m0]
    generalize w * m.toNat = WM at *
    unfold wt at *
    split <;> omega
 have b38 : ∀ v, v < 30 → (D5 w ls (a1A ps) v).length ≤ w * mW (a1A ps) (v + 1) := fun v hv => by
  obtain ⟨m, l, a, dc, g⟩ := hst v hv
  obtain ⟨e1, e2⟩ := a4E g.get
  have m0 := g.m0
  have on := g.on
  have hw := wl v (by omega)
  unfold onP at on
  split at on
  ·cases on
  ·rename_i hr
   rw [e1]
   have hmm : ((w * m.toNat : Nat) : Int) = (w : Int) * m := by rw [Int.natCast_mul, Int.toNat_of_nonneg m0]
   omega
 have lents : ∀ v, v ≤ 30 → lW (a1A ps) v ≤ a3G ls v := fun v hv => by
  cases v with
  | zero => exact Nat.zero_le _
  | succ v =>
   obtain ⟨m, l, a, dc, g⟩ := hst v (by omega)
   obtain ⟨e1, e2⟩ := a4E g.get
   have lc := g.lc
   rw [a2f (by omega)] at lc
   rw [e2]
   omega
 refine ⟨⟨by unfold a1A; simp [hl], b38, lents⟩, fun j j1 j2 => ?_, ?_, ?_, ?_, ?_, rfl⟩
 ·obtain ⟨v, rfl⟩ : ∃ v, j = v + 1 := ⟨j - 1, by omega⟩
  obtain ⟨m, l, a, dc, g⟩ := hst v (by omega)
  obtain ⟨e1, e2⟩ := a4E g.get
  have hw := wl v (by omega)
  have hf := b38 v (by omega)
  have on := g.on
  have m0 := g.m0
  have l0 := g.l0
  have lc := g.lc
  rw [a2f (by omega)] at lc on
  have hc0 := A7 (o9 ls) (v + 2)
  unfold onP at on
  split at on
  ·cases on
  ·rename_i hr
   injection on with on
   injection on with ea edc
   unfold n5 a7G a9r
   rw [if_pos ⟨by omega, j2⟩, List.length_append, List.length_append, List.length_map, List.length_map, List.length_take, List.length_drop, T3, Nat.add_sub_cancel, e1, e2]
   rw [e1] at hf
   have hmm : ((w * m.toNat : Nat) : Int) = (w : Int) * m := by rw [Int.natCast_mul, Int.toNat_of_nonneg m0]
   generalize w * m.toNat = WM at *
   have lent : ((if v + 1 + 1 ≤ 30 then V3 ls (a1A ps) (v + 1 + 1) else []).length : Int) ≤ max 0 a := by
    split
    ·rename_i hv2
     obtain ⟨m', l', a', dc', g'⟩ := hst (v + 1) (by omega)
     obtain ⟨e1', e2'⟩ := a4E g'.get
     have ls' := g'.ls
     rw [g.nx] at ls'
     have l0' := g'.l0
     unfold V3
     rw [List.length_map, List.length_take, e2']
     have : ((l'.toNat : Nat) : Int) ≤ max 0 a := by
      rw [Int.toNat_of_nonneg l0']
      exact ls'
     omega
    ·simp only [List.length_nil]; omega
   generalize (if v + 1 + 1 ≤ 30 then V3 ls (a1A ps) (v + 1 + 1) else []).length = X at *
   omega
 ·have key : ∀ n, n ≤ 30 → (((List.range n).map fun u => mW (a1A ps) (u + 1)).sum : Int) = (sts n).1 := by
   intro n
   induction n with
   | zero => intro _; rw [h0]; rfl
   | succ n ih =>
    intro hn
    obtain ⟨m, l, a, dc, g⟩ := hst n (by omega)
    obtain ⟨e1, e2⟩ := a4E g.get
    have m0 := g.m0
    rw [List.range_succ, List.map_append, List.sum_append, g.nx]
    have ih := ih (by omega)
    simp only [List.map_cons, List.map_nil, List.sum_cons, List.sum_nil, e1]
    push_cast
    rw [ih]
    show (sts n).1 + _ = (sts n).1 + m
    omega
  have k30 := key 30 (Nat.le_refl _)
  rw [hu] at k30
  omega
 ·have key : ∀ n, n ≤ 30 → ((((List.range n).map fun u => (D5 w ls (a1A ps) u).length + lW (a1A ps) (u + 1)).sum : Nat) : Int) = cc n := by
   intro n
   induction n with
   | zero => intro _; rw [c0]; rfl
   | succ n ih =>
    intro hn
    obtain ⟨m, l, a, dc, g⟩ := hst n (by omega)
    obtain ⟨e1, e2⟩ := a4E g.get
    have l0 := g.l0
    have hw := wl n (by omega)
    have on := g.on
    unfold onP at on
    split at on
    ·cases on
    ·injection on with on
     injection on with ea edc
     rw [List.range_succ, List.map_append, List.sum_append, g.nc]
     have ih := ih (by omega)
     simp only [List.map_cons, List.map_nil, List.sum_cons, List.sum_nil, e2]
     push_cast
     push_cast at ih
     rw [ih]
     omega
  rw [key 30 (Nat.le_refl _), cu]
 ·have := wl 30 (Nat.le_refl _)
  rw [hu] at this
  unfold wt at this
  rw [if_neg (by omega)] at this
  exact List.eq_nil_of_length_eq_zero (by omega)
 ·obtain ⟨m, l, a, dc, g⟩ := hst 0 (by omega)
  obtain ⟨e1, e2⟩ := a4E g.get
  have l0 := g.l0
  have ls' := g.ls
  rw [h0] at ls'
  rw [e2]
  omega
end BV
namespace BV
open PySem L2
section
variable (w : Nat) (ls : List (Str × Int)) (wy : List (Nat × Nat))
def E8 (n : Nat) : List Int := (List.range n).flatMap fun u => List.replicate (mW wy (u + 1)) ((u + 1 : Nat) : Int)
def J5 (n : Nat) : List (List e9) := (List.range n).flatMap fun u => (List.range (mW wy (u + 1))).map (a1r w (n5 w ls wy 30 (u + 1)))
theorem T0 (n : Nat) : E8 wy (n + 1) = E8 wy n ++ List.replicate (mW wy (n + 1)) ((n + 1 : Nat) : Int) := by
 unfold E8
 rw [List.range_succ, List.flatMap_append]
 simp
theorem Y1 (n : Nat) : J5 w ls wy (n + 1) = J5 w ls wy n ++ (List.range (mW wy (n + 1))).map (a1r w (n5 w ls wy 30 (n + 1))) := by
 unfold J5
 rw [List.range_succ, List.flatMap_append]
 simp
theorem J6 (n : Nat) : (E8 wy n).length = ((List.range n).map fun u => mW wy (u + 1)).sum := by
 induction n with
 | zero => rfl
 | succ n ih => rw [T0, List.length_append, ih, List.length_replicate, List.range_succ, List.map_append, List.sum_append]; simp
theorem N7 (n : Nat) : (J5 w ls wy n).length = ((List.range n).map fun u => mW wy (u + 1)).sum := by
 induction n with
 | zero => rfl
 | succ n ih => rw [Y1, List.length_append, ih, List.length_map, List.length_range, List.range_succ, List.map_append, List.sum_append]; simp
theorem a9y {f : Nat → Nat} : ∀ {n k : Nat}, n ≤ k → ((List.range n).map f).sum ≤ ((List.range k).map f).sum := by
 intro n k h
 induction k with
 | zero => rw [show n = 0 by omega]; exact Nat.le_refl _
 | succ k ih =>
  by_cases q : n = k + 1
  ·rw [q]; exact Nat.le_refl _
  ·have := ih (by omega)
   rw [List.range_succ, List.map_append, List.sum_append]
   omega
theorem b8q {f : Nat → Nat} {n u : Nat} (h : u < n) : f u ≤ ((List.range n).map f).sum := by
 have := a9y (f := f) (show u + 1 ≤ n by omega)
 rw [List.range_succ, List.map_append, List.sum_append] at this
 simp at this
 omega
end
def H7 (h : Nat) (wy : List (Nat × Nat)) : Nat := h - ((List.range 30).map fun u => mW wy (u + 1)).sum
def a9l (h : Nat) (wy : List (Nat × Nat)) : List Int := E8 wy 30 ++ List.replicate (H7 h wy) 1
def a4Q (w h : Nat) (ls : List (Str × Int)) (wy : List (Nat × Nat)) : List (List e9) := J5 w ls wy 30 ++ List.replicate (H7 h wy) (List.replicate w none)
def b5g (w h : Nat) (ls : List (Str × Int)) (wy : List (Nat × Nat)) : List (List e9) := wbP false (a4Q w h ls wy)
section
variable {S : Sto} {w h : Nat} {ls : List (Str × Int)} {wy : List (Nat × Nat)}
theorem c0b {c : Int} (k : a7C w h ls wy c) (hh : h ≤ 15) (u : Nat) : mW wy u ≤ 15 ∨ u = 0 ∨ 30 < u := by
 by_cases h0 : u = 0
 ·exact .inr (.inl h0)
 ·by_cases h1 : 30 < u
  ·exact .inr (.inr h1)
  ·left
   have := b8q (f := fun u => mW wy (u + 1)) (n := 30) (u := u - 1) (by omega)
   simp only [Nat.sub_add_cancel (show 1 ≤ u by omega)] at this
   have := k.rows
   omega
theorem b9A (k : wy.length = 31) {u : Nat} (h : 30 < u) : mW wy u = 0 := by
 unfold mW
 rw [List.getElem?_eq_none (by omega)]
 rfl
def b78 (w h : Nat) (ls : List (Str × Int)) (wy : List (Nat × Nat)) (n : Nat) (y8 y9 y10 y11 : Option T) : En :=
 [some (.val (c7 ((w : Int), (h : Int)))), some (.val (.list (ls.map ltD))), some (.val (.int (w : Int))), some (.val (.int (h : Int))), some (.val (wyD wy)), some (.val (.list ((n8 w ls wy 30).map fun l => .list (l.map ltD)))), some (.own ((E8 wy n).map PyData.int)), some (.own ((J5 w ls wy n).map m4)), y8, y9, y10, y11]
theorem b3M {c : Int} (k : a7C w h ls wy c) (hw : w ≤ 15) (hh : h ≤ 15) {n : Nat} (hn : n < 30) {y9 y10 y11 : Option T} :
  ∃ z9, P9 (b78 w h ls wy n (some (.val (.int ((n + 1 : Nat) : Int)))) y9 y10 y11) S = .nx (b78 w h ls wy (n + 1) (some (.val (.int ((n + 1 : Nat) : Int)))) z9 y10 y11) S := by
 have hlen := k.ok.len
 have hlen2 : n + 1 < wy.length := by omega
 have ew : wy[n + 1]? = some (mW wy (n + 1), lW wy (n + 1)) := by
  unfold mW lW
  rw [List.getElem?_eq_getElem hlen2]
  rfl
 have hm : mW wy (n + 1) ≤ 15 := by
  rcases c0b k hh (n + 1) with h | h | h
  ·exact h
  ·omega
  ·omega
 have hs := k.rows
 have h2 := a9y (f := fun u => mW wy (u + 1)) (show n ≤ 30 by omega)
 have ul := J6 wy n
 have rl := N7 w ls wy n
 have i1 : gIx (wyD wy) (.int ((n + 1 : Nat) : Int)) = some (.val (c7 ((mW wy (n + 1) : Int), (lW wy (n + 1) : Int)))) := by
  unfold wyD
  rw [E9, C7 (by rw [List.getElem?_map, ew]; rfl)]
  rfl
 have i0 : gIx (c7 ((mW wy (n + 1) : Int), (lW wy (n + 1) : Int))) (.int 0) = some (.val (.int (mW wy (n + 1) : Int))) := rfl
 have ic : gIx (.list ((n8 w ls wy 30).map fun l => .list (l.map ltD))) (.int ((n + 1 : Nat) : Int)) = some (.val (.list ((n5 w ls wy 30 (n + 1)).map ltD))) := by
  rw [E9, C7 (by rw [List.getElem?_map, J4 (by omega)]; rfl)]
  rfl
 have rp : E2 (.list [.int ((n + 1 : Nat) : Int)]) (.int (mW wy (n + 1) : Int)) = some (.own ((List.replicate (mW wy (n + 1)) ((n + 1 : Nat) : Int)).map PyData.int)) := by
  rw [b4j (by omega) (by simp only [List.length_singleton]; rw [sizeLine_eq]; omega), V9, List.map_replicate]
 have ex1 : B6 ((E8 wy n).map PyData.int) [.list ((List.replicate (mW wy (n + 1)) ((n + 1 : Nat) : Int)).map PyData.int)] = some ((E8 wy (n + 1)).map PyData.int, .none) := by
  show (if _ ≤ sizeLine then some (_ ++ _, PyData.none) else none) = _
  rw [if_pos (by rw [List.length_map, List.length_map, List.length_replicate]; exact y0 (by omega)), T0, List.map_append]
 have ex2 : B6 ((J5 w ls wy n).map m4) [.list (((List.range (mW wy (n + 1))).map (a1r w (n5 w ls wy 30 (n + 1)))).map m4)] = some ((J5 w ls wy (n + 1)).map m4, .none) := by
  show (if _ ≤ sizeLine then some (_ ++ _, PyData.none) else none) = _
  rw [if_pos (by simp only [List.length_map, List.length_range]; exact y0 (by omega)), Y1, List.map_append]
 have fit := k.fit (n + 1) (by omega) (by omega)
 have wm : w * mW wy (n + 1) ≤ 15 * 15 := Nat.mul_le_mul hw hm
 have rs := a9O (S := S) (w := w) (m := mW wy (n + 1)) (cells := n5 w ls wy 30 (n + 1)) (by omega) (by omega) (by omega)
 refine ⟨some (.val (.int (mW wy (n + 1) : Int))), ?_⟩
 unfold P9 b78
 generalize ((List.range (mW wy (n + 1))).map (a1r w (n5 w ls wy 30 (n + 1)))).map m4 = RX at *
 generalize (List.replicate (mW wy (n + 1)) ((n + 1 : Nat) : Int)).map PyData.int = UX at *
 generalize ((n + 1 : Nat) : Int) = N1 at *
 generalize wyD wy = WD at *
 generalize (n8 w ls wy 30).map (fun l => PyData.list (l.map ltD)) = FL at *
 generalize (n5 w ls wy 30 (n + 1)).map ltD = FC at *
 generalize (E8 wy (n + 1)).map PyData.int = U2 at *
 generalize (E8 wy n).map PyData.int = U1 at *
 generalize (J5 w ls wy (n + 1)).map m4 = R2 at *
 generalize (J5 w ls wy n).map m4 = R1 at *
 generalize ls.map ltD = LS at *
 refine b8 (ρ1 := [some (.val (c7 ((w : Int), (h : Int)))), some (.val (.list LS)), some (.val (.int (w : Int))), some (.val (.int (h : Int))), some (.val WD), some (.val (.list FL)), some (.own U1), some (.own R1), some (.val (.int N1)), some (.val (.int (mW wy (n + 1) : Int))), y10, y11]) (S1 := S) (by simp [i1, i0]) ?_
 refine b8 (ρ1 := [some (.val (c7 ((w : Int), (h : Int)))), some (.val (.list LS)), some (.val (.int (w : Int))), some (.val (.int (h : Int))), some (.val WD), some (.val (.list FL)), some (.own U2), some (.own R1), some (.val (.int N1)), some (.val (.int (mW wy (n + 1) : Int))), y10, y11]) (S1 := S) (by simp [rp, ex1]) ?_
 simp [ic, rs, ex2, -E9]
theorem b9T {xs ys : List D} (h : xs.length + ys.length ≤ 90000) : B6 xs [.list ys] = some (xs ++ ys, .none) := by
 show (if xs.length + ys.length ≤ sizeLine then some (xs ++ ys, PyData.none) else none) = _
 rw [if_pos (y0 (by omega))]
theorem b2c {i : Nat} {g : SS} {ρ ρ' : En} {S : Sto} {r : Fl} (h : fz i ρ = some ρ') (h2 : g ρ' S = r) : sFz i g ρ S = r := by rw [c4e, h]; exact h2
theorem b6l (c : e9) : lf (p7 c) = true := by
 cases c with
 | none => rfl
 | some p => obtain ⟨x, i⟩ := p; simp [p7]
theorem b9O (r : List e9) : lf (E7 r) = true := by unfold E7; rw [c0m]; exact a1o p7 b6l r
theorem b2k (rs : List (List e9)) : lf (.tuple (rs.map E7)) = true := by rw [c0m]; exact a1o E7 b9O rs
theorem b69 (ps : List (Int × Int)) (hp : ∀ p ∈ ps, 0 ≤ p.1 ∧ 0 ≤ p.2) : ((0, 0) :: ps).map c7 = (a1A ps).map fun p => c7 ((p.1 : Int), (p.2 : Int)) := by
 unfold a1A
 rw [List.map_cons, List.map_cons, List.map_map]
 congr 1
 refine List.map_congr_left fun p h => ?_
 obtain ⟨a, b⟩ := hp p h
 show c7 p = c7 (((p.1.toNat : Nat) : Int), ((p.2.toNat : Nat) : Int))
 rw [Int.toNat_of_nonneg a, Int.toNat_of_nonneg b]
theorem b9S {w h : Int} {cs : List Nat} {u : Nat} {st : Int × Int} {c : Int} {ps : List (Int × Int)} (y : Way w h cs u st c ps) : ∀ p ∈ ps, 0 ≤ p.1 ∧ 0 ≤ p.2 := by
 induction y with
 | zero => exact fun _ h => nomatch h
 | @succ u st c ps m l a dc y m0 l0 mh lc ls eo ih =>
  intro p hp
  rcases List.mem_append.mp hp with q | q
  ·exact ih p q
  ·rw [List.mem_singleton.mp q]; exact ⟨m0, l0⟩
structure c2D (w h : Nat) (ls : List (Str × Int)) (c : Int) : Prop where
 way : ∃ st ps, Way (w : Int) (h : Int) (o9 ls) 30 st c ps ∧ 0 ≤ st.2 ∧ st.1 ≤ (h : Int)
 least : ∀ st c' ps, Way (w : Int) (h : Int) (o9 ls) 30 st c' ps → 0 ≤ st.2 → c ≤ c'
theorem a8P (hw1 : 1 ≤ w) (hw : w ≤ 15) (hh : h ≤ 15) (hl : ls.length ≤ 60) (hls : ∀ p ∈ ls, 1 ≤ p.2 ∧ p.2 ≤ 30) (hS : lfS S = true) :
  (p9 [.val (c7 ((w : Int), (h : Int))), .val (.list (ls.map ltD))] S = .exc ⟨"NoLayout", none⟩ S ∧ (w * h ≤ ls.length ∨ ∀ st c ps, Way (w : Int) (h : Int) (o9 ls) 30 st c ps → 0 ≤ st.2 → False)) ∨
  (ls.length < w * h ∧ ∃ c wy, c2D w h ls c ∧ a7C w h ls wy c ∧ p9 [.val (c7 ((w : Int), (h : Int))), .val (.list (ls.map ltD))] S = .ok (.val (v4 (a9l h wy) (b5g w h ls wy))) S) := by
 have cle : ∀ u, ct (o9 ls) u ≤ 60 := fun u => by have := b2z (ls := ls) u; omega
 have bo := b5R (S := S) (w := w) (h := h) (cs := o9 ls) (N := 60) (a3z ls) (by omega) hw1 hh (by omega) cle
 obtain ⟨_, k⟩ := a0P (S := S) (w := w) (h := h) (cs := o9 ls) (N := 60) (a3z ls) (by omega) hw1 hh (by omega) cle
 have k30 := k 30 (Nat.le_refl _)
 have co := a6X (S := S) hls
 have len := w7 (xs := ls.map ltD)
 rw [List.length_map] at len
 have mw : E2 (.int (w : Int)) (.int (h : Int)) = some (.val (.int ((w * h : Nat) : Int))) := by
  rw [Z8 (Q8 (by omega) (by omega)) (Q8 (by omega) (by omega)), Int.natCast_mul]
 have p0 : ∀ {r : Fl} {rest : SS}, rest [some (.val (c7 ((w : Int), (h : Int)))), some (.val (.list (ls.map ltD))), some (.val (.int (w : Int))), some (.val (.int (h : Int))), none, none, none, none, none, none, none, none] S = r →
   (k7 (a4G (a0e 2 (m3 (f8 2) (m3 (f8 3) a0l))) (l7 0)) rest) (start0 12 [.val (c7 ((w : Int), (h : Int))), .val (.list (ls.map ltD))]) S = r := fun {r rest} hr => by
  refine b8 ?_ hr
  generalize ls.map ltD = LS
  simp [c7]
 by_cases h1 : w * h ≤ ls.length
 ·refine .inl ⟨?_, .inl h1⟩
  unfold p9
  rw [b3A]
  unfold O6
  rw [p0 (r := .ex ⟨"NoLayout", none⟩ [some (.val (c7 ((w : Int), (h : Int)))), some (.val (.list (ls.map ltD))), some (.val (.int (w : Int))), some (.val (.int (h : Int))), none, none, none, none, none, none, none, none] S) (by
   have : (((w * h : Nat) : Int) ≤ (ls.length : Int)) := by omega
   generalize ls.map ltD = LS at *
   generalize w * h = WH at *
   simp [len, mw, this, -w7])]
 ·have p1 : ∀ {r : Fl} {rest : SS}, rest [some (.val (c7 ((w : Int), (h : Int)))), some (.val (.list (ls.map ltD))), some (.val (.int (w : Int))), some (.val (.int (h : Int))), none, none, none, none, none, none, none, none] S = r →
    (k7 (sIf (cB (d5 gGe (cB1 X3 (i4 (b7 1) w3)) (d5 E2 (b7 2) (b7 3)))) (a2e "NoLayout") r7) rest) [some (.val (c7 ((w : Int), (h : Int)))), some (.val (.list (ls.map ltD))), some (.val (.int (w : Int))), some (.val (.int (h : Int))), none, none, none, none, none, none, none, none] S = r := fun {r rest} hr => by
   refine b8 ?_ hr
   have : ¬ (((w * h : Nat) : Int) ≤ (ls.length : Int)) := by omega
   clear hr
   generalize ls.map ltD = LS at *
   generalize w * h = WH at *
   simp [len, mw, this, -w7]
  have cd : PyData.list ((o9 ls).map fun (n : Nat) => PyData.int (n : Int)) = csD (o9 ls) := rfl
  by_cases h2 : J1 (i8 w h (o9 ls) 30) = []
  ·refine .inl ⟨?_, .inr fun st c ps y hs => ?_⟩
   ·have b1 := bo.1 h2
    unfold p9
    rw [b3A]
    unfold O6
    rw [p0 (r := .ex ⟨"NoLayout", none⟩ [some (.val (c7 ((w : Int), (h : Int)))), some (.val (.list (ls.map ltD))), some (.val (.int (w : Int))), some (.val (.int (h : Int))), none, none, none, none, none, none, none, none] S) (p1 (by
     rw [← cd] at b1
     generalize ls.map ltD = LS at *
     generalize (o9 ls).map (fun (n : Nat) => PyData.int (n : Int)) = CS at *
     simp [co, b1]))]
   ·obtain ⟨st', e, he, r1, s1, c1⟩ := a45 hw1 k y (Nat.le_refl _)
    have : (e.c, st') ∈ J1 (i8 w h (o9 ls) 30) := (a0y k30.nd).mpr ⟨by omega, e, he, rfl⟩
    rw [h2] at this
    exact nomatch this
  ·obtain ⟨c, st, hm, hle, b1⟩ := bo.2 h2
   obtain ⟨s0, e, he, rfl⟩ := (a0y k30.nd).mp hm
   have y := a32 hw1 k 30 (Nat.le_refl _) he
   have hr := (k30.box st (List.mem_map.mpr ⟨_, P5 he, rfl⟩)).r1
   have ky := b9G y s0 hr
   refine .inr ⟨by omega, e.c, a1A (W0 w h (o9 ls) 30 st), ⟨⟨st, _, y, s0, hr⟩, fun st2 c2 ps2 y2 hs2 => ?_⟩, ky, ?_⟩
   ·obtain ⟨st', e', he', r1, s1, c1⟩ := a45 hw1 k y2 (Nat.le_refl _)
    have : (e'.c, st') ∈ J1 (i8 w h (o9 ls) 30) := (a0y k30.nd).mpr ⟨by omega, e', he', rfl⟩
    have := hle _ this
    have : e.c ≤ e'.c := this
    omega
   ·rw [b69 _ (b9S y)] at b1
    generalize a1A (W0 w h (o9 ls) 30 st) = wy at *
    have m15 : ∀ u, mW wy u ≤ 100 := fun u => by
     rcases c0b ky hh u with h | h | h
     ·omega
     ·rw [h, ky.zero]; omega
     ·rw [b9A ky.ok.len h]; omega
    have cs := a2B (S := S) ky.ok (by omega) (by omega) m15
    obtain ⟨ρ', S', el, rfl, y8, y9, rfl⟩ := D7 (b := f8 8) (body := P9) (fun i ρ S' => S' = S ∧ ∃ y8 y9, ρ = b78 w h ls wy i y8 y9 none none)
     (j8 1 30) 0 (b78 w h ls wy 0 none none none none) S ⟨rfl, none, none, rfl⟩ (by
      rintro i d ρ S' hd ⟨rfl, y8, y9, rfl⟩
      obtain ⟨hi, rfl⟩ := T7 hd
      rw [Nat.zero_add]
      obtain ⟨z9, et⟩ := b3M (S := S') ky hw hh (n := i) hi (y9 := y9) (y10 := none) (y11 := none)
      rw [Nat.add_comm 1 i]
      exact ⟨_, rfl, _, S', .inl et, rfl, _, z9, rfl⟩)
    rw [Nat.zero_add, E4] at el
    have gr : a3p [.int 1, .int 31] = some (j8 1 30) := a6w (n := 30) (by omega)
    have hrs := ky.rows
    have rl := N7 w ls wy 30
    have ul := J6 wy 30
    have hrest : ((h : Int) - ((J5 w ls wy 30).length : Int)) = ((H7 h wy : Nat) : Int) := by
     unfold H7
     rw [rl]
     omega
    have restle : H7 h wy ≤ 15 := by unfold H7; omega
    have ln : X3 [.list ((J5 w ls wy 30).map m4)] = some (.val (.int ((J5 w ls wy 30).length : Int))) := by rw [w7, List.length_map]
    have lc : ∀ {a b d e f g i j k : Option T}, lcM (f8 11) a2o (d5 E2 (t9 (d2 (cC .none) l8)) (b7 2)) [a, b, some (.val (.int (w : Int))), d, e, f, g, i, j, k, some (.val (.int ((H7 h wy : Nat) : Int))), none] (j8 0 (H7 h wy)) S' = .ok ((List.replicate (H7 h wy) (List.replicate w (none : e9))).map m4) S' := by
     intro a b d e f g i j k
     have rp : E2 (.list [PyData.none]) (.int (w : Int)) = some (.own (List.replicate w PyData.none)) := by
      rw [b4j (by omega) (by simp only [List.length_singleton]; rw [sizeLine_eq]; omega), V9]
     have := b1C (S := S') (b := f8 11) (elt := d5 E2 (t9 (d2 (cC .none) l8)) (b7 2)) (ρ := [a, b, some (.val (.int (w : Int))), d, e, f, g, i, j, k, some (.val (.int ((H7 h wy : Nat) : Int))), none]) (fun _ => m4 (List.replicate w (none : e9))) (j8 0 (H7 h wy)) fun d' _ => ⟨_, .own (List.replicate w PyData.none), rfl, by simp [rp], by unfold m4; rw [List.map_replicate]; rfl⟩
     rw [this]
     have : (j8 0 (H7 h wy)).map (fun _ => m4 (List.replicate w (none : e9))) = List.replicate (H7 h wy) (m4 (List.replicate w (none : e9))) := by
      rw [List.map_const', E4]
     rw [this, List.map_replicate]
    have ex : B6 ((J5 w ls wy 30).map m4) [.list ((List.replicate (H7 h wy) (List.replicate w (none : e9))).map m4)] = some ((a4Q w h ls wy).map m4, .none) := by
     rw [b9T (by simp only [List.length_map, List.length_replicate]; omega)]
     unfold a4Q
     rw [List.map_append]
    have ru : E2 (.list [.int 1]) (.int ((H7 h wy : Nat) : Int)) = some (.own ((List.replicate (H7 h wy) (1 : Int)).map PyData.int)) := by
     rw [b4j (by omega) (by simp only [List.length_singleton]; rw [sizeLine_eq]; omega), V9, List.map_replicate]
    have au : w9 (.list ((E8 wy 30).map PyData.int)) (.list ((List.replicate (H7 h wy) (1 : Int)).map PyData.int)) = some (.own ((a9l h wy).map PyData.int)) := by
     rw [b1u (by simp only [List.length_map, List.length_replicate]; exact y0 (by omega))]
     unfold a9l
     rw [List.map_append]
    have l0len : (a4Q w h ls wy).length ≤ 100 := by
     unfold a4Q
     rw [List.length_append, List.length_replicate]
     omega
    have l0w : ∀ r ∈ a4Q w h ls wy, r.length ≤ 100 := fun r hr => by
     unfold a4Q at hr
     rcases List.mem_append.mp hr with q | q
     ·unfold J5 at q
      obtain ⟨u, _, q⟩ := List.mem_flatMap.mp q
      obtain ⟨k', _, rfl⟩ := List.mem_map.mp q
      rw [a8u]
      omega
     ·rw [(List.mem_replicate.mp q).2, List.length_replicate]
      omega
    have bs := a9K (S := S') l0len l0w
    have lfr := b2k (b5g w h ls wy)
    have cd2 : PyData.list (wy.map fun p => c7 ((p.1 : Int), (p.2 : Int))) = wyD wy := rfl
    unfold p9
    refine E1 ?_
    unfold O6
    refine p0 (p1 ?_)
    unfold b78 at el
    rw [show (E8 wy 0).map PyData.int = [] from rfl, show (J5 w ls wy 0).map m4 = [] from rfl] at el
    unfold v4
    rw [← cd] at b1
    rw [show (wbP false (a4Q w h ls wy)) = b5g w h ls wy from rfl] at bs
    generalize (List.replicate (H7 h wy) (List.replicate w (none : e9))).map m4 = RR at *
    generalize (List.replicate (H7 h wy) (1 : Int)).map PyData.int = RU at *
    generalize (a9l h wy).map PyData.int = LU at *
    generalize (b5g w h ls wy).map E7 = LR at *
    generalize (a4Q w h ls wy).map m4 = L0 at *
    generalize (E8 wy 30).map PyData.int = U3 at *
    generalize (J5 w ls wy 30).map m4 = R3 at *
    generalize (n8 w ls wy 30).map (fun l => PyData.list (l.map ltD)) = FL at *
    generalize (o9 ls).map (fun (n : Nat) => PyData.int (n : Int)) = CS at *
    generalize ls.map ltD = LS at *
    generalize (wy.map fun p => c7 ((p.1 : Int), (p.2 : Int))) = WL at *
    generalize wyD wy = WD at *
    generalize H7 h wy = RS at *
    refine b8 (ρ1 := [some (.val (c7 ((w : Int), (h : Int)))), some (.val (.list LS)), some (.val (.int (w : Int))), some (.val (.int (h : Int))), some (.own WL), none, none, none, none, none, none, none]) (S1 := S') (by simp [co, b1]) ?_
    refine b2c (ρ' := [some (.val (c7 ((w : Int), (h : Int)))), some (.val (.list LS)), some (.val (.int (w : Int))), some (.val (.int (h : Int))), some (.val WD), none, none, none, none, none, none, none]) (by simp [cd2]) ?_
    refine b8 (ρ1 := [some (.val (c7 ((w : Int), (h : Int)))), some (.val (.list LS)), some (.val (.int (w : Int))), some (.val (.int (h : Int))), some (.val WD), some (.val (.list FL)), none, none, none, none, none, none]) (S1 := S') (by simp [cs]) ?_
    refine b8 (ρ1 := [some (.val (c7 ((w : Int), (h : Int)))), some (.val (.list LS)), some (.val (.int (w : Int))), some (.val (.int (h : Int))), some (.val WD), some (.val (.list FL)), some (.own []), none, none, none, none, none]) (S1 := S') (by simp) ?_
    refine b8 (ρ1 := [some (.val (c7 ((w : Int), (h : Int)))), some (.val (.list LS)), some (.val (.int (w : Int))), some (.val (.int (h : Int))), some (.val WD), some (.val (.list FL)), some (.own []), some (.own []), none, none, none, none]) (S1 := S') (by simp) ?_
    refine b8 (ρ1 := [some (.val (c7 ((w : Int), (h : Int)))), some (.val (.list LS)), some (.val (.int (w : Int))), some (.val (.int (h : Int))), some (.val WD), some (.val (.list FL)), some (.own U3), some (.own R3), y8, y9, none, none]) (S1 := S') (by simp [gr, el]) ?_
    refine b8 (ρ1 := [some (.val (c7 ((w : Int), (h : Int)))), some (.val (.list LS)), some (.val (.int (w : Int))), some (.val (.int (h : Int))), some (.val WD), some (.val (.list FL)), some (.own U3), some (.own R3), y8, y9, some (.val (.int (RS : Int))), none]) (S1 := S') (by simp [ln, hrest, -w7]) ?_
    have gr1 := a0a (n := RS) (y0 (by omega))
    refine b8 (ρ1 := [some (.val (c7 ((w : Int), (h : Int)))), some (.val (.list LS)), some (.val (.int (w : Int))), some (.val (.int (h : Int))), some (.val WD), some (.val (.list FL)), some (.own U3), some (.own L0), y8, y9, some (.val (.int (RS : Int))), none]) (S1 := S') (by simp [gr1, t6, lc, ex]) ?_
    simp [ru, au, bs, lfr, hS]
end
end BV
namespace BV
open PySem L2
abbrev UC := Int × Str × Int
def K4 (u : Int) (r : List e9) : List UC := r.filterMap fun c => c.map fun p => (u, p.1, p.2)
def i9 (units : List Int) (rows : List (List e9)) : List UC := (units.zip rows).flatMap fun q => K4 q.1 q.2
theorem s8 (u : Int) (r : List e9) (us : List Int) (rs : List (List e9)) : i9 (u :: us) (r :: rs) = K4 u r ++ i9 us rs := by
 unfold i9
 rw [List.zip_cons_cons, List.flatMap_cons]
theorem X5 {us us' : List Int} {rs rs' : List (List e9)} (h : us.length = rs.length) : i9 (us ++ us') (rs ++ rs') = i9 us rs ++ i9 us' rs' := by
 unfold i9
 rw [List.zip_append h, List.flatMap_append]
theorem b26 (u : Int) (l : List (Str × Int)) : K4 u (l.map some) = l.map fun p => (u, p.1, p.2) := by
 unfold K4
 induction l with
 | nil => rfl
 | cons p l ih => simp only [List.map_cons, List.filterMap_cons, Option.map_some, ih]
theorem a3V (u : Int) (n : Nat) : K4 u (List.replicate n none) = [] := by
 unfold K4
 rw [List.filterMap_eq_nil_iff]
 intro a ha
 rw [(List.mem_replicate.mp ha).2]
 rfl
theorem a9x (u : Int) (a b : List e9) : K4 u (a ++ b) = K4 u a ++ K4 u b := List.filterMap_append ..
theorem a2p (u : Int) {w : Nat} {cells : List (Str × Int)} : ∀ m : Nat, i9 (List.replicate m u) ((List.range m).map (a1r w cells)) = (cells.take (m * w)).map fun p => (u, p.1, p.2)
 | 0 => by simp [i9]
 | m + 1 => by
  rw [List.replicate_succ', List.range_succ, List.map_append, X5 (by simp), a2p u m]
  have e1 : i9 [u] ([m].map (a1r w cells)) = ((cells.drop (m * w)).take w).map fun p => (u, p.1, p.2) := by
   rw [List.map_cons, List.map_nil, s8]
   unfold a1r
   rw [a9x, b26, a3V]
   simp [i9]
  rw [e1, ← List.map_append, Nat.succ_mul, List.take_add]
section
variable {w h : Nat} {ls : List (Str × Int)} {wy : List (Nat × Nat)} {c : Int}
def H8 (w : Nat) (ls : List (Str × Int)) (wy : List (Nat × Nat)) (n : Nat) : List UC := (List.range n).flatMap fun u => (n5 w ls wy 30 (u + 1)).map fun p => (((u + 1 : Nat) : Int), p.1, p.2)
theorem S9 (n : Nat) : H8 w ls wy (n + 1) = H8 w ls wy n ++ (n5 w ls wy 30 (n + 1)).map fun p => (((n + 1 : Nat) : Int), p.1, p.2) := by
 unfold H8
 rw [List.range_succ, List.flatMap_append]
 simp
theorem a39 (k : a7C w h ls wy c) : ∀ n, n ≤ 30 → i9 (E8 wy n) (J5 w ls wy n) = H8 w ls wy n
 | 0, _ => by simp [i9, H8, E8, J5]
 | n + 1, hn => by
  rw [T0, Y1, X5 (by rw [J6, N7]), a39 k n (by omega), a2p, S9]
  have := k.fit (n + 1) (by omega) hn
  rw [List.take_of_length_le (by rw [Nat.mul_comm]; exact this)]
theorem a2d (k : a7C w h ls wy c) : i9 (a9l h wy) (a4Q w h ls wy) = H8 w ls wy 30 := by
 unfold a9l a4Q
 rw [X5 (by rw [J6, N7]), a39 k 30 (Nat.le_refl _)]
 have : ∀ n, i9 (List.replicate n 1) (List.replicate n (List.replicate w (none : e9))) = [] := by
  intro n
  induction n with
  | zero => rfl
  | succ n ih => rw [List.replicate_succ, List.replicate_succ, s8, ih, a3V]; rfl
 rw [this, List.append_nil]
theorem a8Q (k : a7C w h ls wy c) : (a9l h wy).length = h := by
 unfold a9l H7
 rw [List.length_append, List.length_replicate, J6]
 have := k.rows
 omega
theorem a29 (k : a7C w h ls wy c) : (a4Q w h ls wy).length = h := by
 unfold a4Q H7
 rw [List.length_append, List.length_replicate, N7]
 have := k.rows
 omega
theorem a34 : ∀ r ∈ a4Q w h ls wy, r.length = w := fun r hr => by
 unfold a4Q at hr
 rcases List.mem_append.mp hr with q | q
 ·unfold J5 at q
  obtain ⟨u, _, q⟩ := List.mem_flatMap.mp q
  obtain ⟨k', _, rfl⟩ := List.mem_map.mp q
  exact a8u ..
 ·rw [(List.mem_replicate.mp q).2, List.length_replicate]
theorem b7G (k : a7C w h ls wy c) : ∀ u ∈ a9l h wy, 1 ≤ u ∧ u ≤ 30 := fun u hu => by
 unfold a9l at hu
 rcases List.mem_append.mp hu with q | q
 ·unfold E8 at q
  obtain ⟨v, hv, q⟩ := List.mem_flatMap.mp q
  rw [List.mem_range] at hv
  rw [(List.mem_replicate.mp q).2]
  omega
 ·rw [(List.mem_replicate.mp q).2]
  omega
end
theorem a1V {u : Int} : ∀ {r : List e9}, none ∈ r → (K4 u (P4 r)).Perm ((u, blank, 0) :: K4 u r) ∧ (P4 r).length = r.length
 | [], h => nomatch h
 | none :: r, _ => ⟨by unfold P4 K4; simp, rfl⟩
 | some p :: r, h => by
  have h' : none ∈ r := by
   rcases List.mem_cons.mp h with e | h
   ·cases e
   ·exact h
  obtain ⟨p1, p2⟩ := a1V (u := u) h'
  refine ⟨?_, by show (P4 r).length + 1 = _; rw [p2]; rfl⟩
  have e1 : K4 u (P4 (some p :: r)) = (u, p.1, p.2) :: K4 u (P4 r) := by show K4 u (some p :: P4 r) = _; unfold K4; simp
  have e2 : K4 u (some p :: r) = (u, p.1, p.2) :: K4 u r := by unfold K4; simp
  rw [e1, e2]
  exact (p1.cons _).trans (List.Perm.swap ..)
theorem b1J : ∀ {us : List Int} {rs : List (List e9)}, us.length = rs.length → (∃ r ∈ rs, none ∈ r) → ∃ u ∈ us, (i9 us (wbP false rs)).Perm ((u, blank, 0) :: i9 us rs) ∧ (wbP false rs).length = rs.length ∧ ∀ n, (∀ r ∈ rs, r.length = n) → ∀ r ∈ wbP false rs, r.length = n
 | [], [], _, h => by obtain ⟨r, hr, _⟩ := h; exact nomatch hr
 | [], _ :: _, h, _ => by simp at h
 | _ :: _, [], h, _ => by simp at h
 | u :: us, r :: rs, hl, h => by
  by_cases hn : none ∈ r
  ·obtain ⟨p1, p2⟩ := a1V (u := u) hn
   have e : wbP false (r :: rs) = P4 r :: rs := by show (if none ∈ r then P4 r :: wbP true rs else _) = _; rw [if_pos hn, b4p]
   refine ⟨u, List.mem_cons_self .., ?_, by rw [e]; rfl, fun n hn r' hr' => ?_⟩
   ·rw [e, s8, s8]
    exact p1.append_right _
   ·rw [e] at hr'
    rcases List.mem_cons.mp hr' with q | q
    ·rw [q, p2]; exact hn r (List.mem_cons_self ..)
    ·exact hn r' (List.mem_cons_of_mem _ q)
  ·have e : wbP false (r :: rs) = r :: wbP false rs := by show (if none ∈ r then _ else r :: wbP false rs) = _; rw [if_neg hn]
   obtain ⟨r', hr', hn'⟩ := h
   have hr'' : r' ∈ rs := by
    rcases List.mem_cons.mp hr' with q | q
    ·exact absurd (q ▸ hn') hn
    ·exact q
   obtain ⟨u', hu', p1, p2, p3⟩ := b1J (us := us) (by simpa using hl) ⟨r', hr'', hn'⟩
   refine ⟨u', List.mem_cons_of_mem _ hu', ?_, by rw [e, List.length_cons, p2]; rfl, fun n hn q hq => ?_⟩
   ·rw [e, s8, s8]
    exact (p1.append_left (K4 u r)).trans List.perm_middle
   ·rw [e] at hq
    rcases List.mem_cons.mp hq with z | z
    ·rw [z]; exact hn r (List.mem_cons_self ..)
    ·exact p3 n (fun x hx => hn x (List.mem_cons_of_mem _ hx)) q z
theorem a2a {w : Nat} : ∀ {us : List Int} {rs : List (List e9)}, us.length = rs.length → (∀ r ∈ rs, r.length = w) → (∀ r ∈ rs, none ∉ r) → (i9 us rs).length = w * rs.length
 | [], [], _, _, _ => rfl
 | [], _ :: _, h, _, _ => by simp at h
 | _ :: _, [], h, _, _ => by simp at h
 | u :: us, r :: rs, hl, hw, hn => by
  have ih := a2a (us := us) (rs := rs) (by simpa using hl) (fun q hq => hw q (List.mem_cons_of_mem _ hq)) (fun q hq => hn q (List.mem_cons_of_mem _ hq))
  have e : ∀ (r : List e9), none ∉ r → (K4 u r).length = r.length := by
   intro r
   induction r with
   | nil => intro _; rfl
   | cons c r ihr =>
    intro h
    cases c with
    | none => exact absurd (List.mem_cons_self ..) h
    | some p =>
     have := ihr (fun z => h (List.mem_cons_of_mem _ z))
     unfold K4 at *
     simp [this]
  rw [s8, List.length_append, ih, e r (hn r (List.mem_cons_self ..)), hw r (List.mem_cons_self ..), List.length_cons, Nat.mul_succ]
  omega
def lw (a : UC) : Str × Int := (a.2.1, a.1 + a.2.2)
section
variable {w h : Nat} {ls : List (Str × Int)} {wy : List (Nat × Nat)} {c : Int}
def U9 (n : Nat) (xs : List Str) : List (Str × Int) := xs.map fun x => (x, (n : Int))
def H0 (ls : List (Str × Int)) (wy : List (Nat × Nat)) (n : Nat) : List Str := if n ≤ 30 then (nmW ls n).take (lW wy n) else []
def b6c (ls : List (Str × Int)) (n : Nat) : List (Str × Int) := (List.range n).flatMap fun u => U9 (u + 1) (nmW ls (u + 1))
theorem a3N (n : Nat) : b6c ls (n + 1) = b6c ls n ++ U9 (n + 1) (nmW ls (n + 1)) := by
 unfold b6c
 rw [List.range_succ, List.flatMap_append]
 simp
theorem b4f {n : Nat} (hn : n < 30) : ((n5 w ls wy 30 (n + 1)).map fun p => (((n + 1 : Nat) : Int), p.1, p.2)).map lw = U9 n (D5 w ls wy n) ++ U9 (n + 1) (a9r w ls wy n) ++ U9 (n + 2) (H0 ls wy (n + 2)) := by
 have e1 : ∀ (xs : List Str), ((xs.map fun x => (x, (-1 : Int))).map fun p => (((n + 1 : Nat) : Int), p.1, p.2)).map lw = U9 n xs := fun xs => by
  unfold U9
  rw [List.map_map, List.map_map]
  refine List.map_congr_left fun x _ => Prod.ext rfl ?_
  show (((n + 1 : Nat) : Int)) + -1 = (n : Int)
  omega
 have e2 : ∀ (xs : List Str), ((xs.map fun x => (x, (0 : Int))).map fun p => (((n + 1 : Nat) : Int), p.1, p.2)).map lw = U9 (n + 1) xs := fun xs => by
  unfold U9
  rw [List.map_map, List.map_map]
  refine List.map_congr_left fun x _ => Prod.ext rfl ?_
  show (((n + 1 : Nat) : Int)) + 0 = ((n + 1 : Nat) : Int)
  omega
 have e3 : ∀ (xs : List Str), ((xs.map fun x => (x, (1 : Int))).map fun p => (((n + 1 : Nat) : Int), p.1, p.2)).map lw = U9 (n + 2) xs := fun xs => by
  unfold U9
  rw [List.map_map, List.map_map]
  refine List.map_congr_left fun x _ => Prod.ext rfl ?_
  show (((n + 1 : Nat) : Int)) + 1 = ((n + 2 : Nat) : Int)
  omega
 unfold n5 a7G H0 V3
 rw [if_pos ⟨by omega, by omega⟩, Nat.add_sub_cancel]
 by_cases h2 : n + 1 + 1 ≤ 30
 ·rw [if_pos h2, if_pos (by omega), List.map_append, List.map_append, List.map_append, List.map_append, e1, e2, e3]
 ·rw [if_neg h2, if_neg (by omega), List.append_nil, List.map_append, List.map_append, e1, e2]
  show _ = _ ++ _ ++ U9 (n + 2) []
  rw [show U9 (n + 2) [] = [] from rfl, List.append_nil]
theorem a6K (n : Nat) (hn : n + 1 ≤ 30) : nmW ls (n + 1) = H0 ls wy (n + 1) ++ (a9r w ls wy n ++ D5 w ls wy (n + 1)) := by
 unfold H0 a9r
 rw [if_pos hn]
 show _ = _ ++ (_ ++ (nmW ls (n + 1)).drop (lW wy (n + 1) + (w * mW wy (n + 1) - (D5 w ls wy n).length)))
 rw [← List.drop_drop, List.take_append_drop, List.take_append_drop]
theorem a2m (k : a7C w h ls wy c) : ∀ n, n ≤ 30 → ((H8 w ls wy n).map lw ++ U9 n (D5 w ls wy n)).Perm (b6c ls n ++ U9 (n + 1) (H0 ls wy (n + 1)))
 | 0, _ => by
  have : H0 ls wy 1 = [] := by unfold H0; rw [k.first]; simp
  rw [this]
  exact List.Perm.refl _
 | n + 1, hn => by
  have ih := a2m k n (by omega)
  rw [S9, List.map_append, b4f (by omega), a3N, a6K (w := w) (wy := wy) n hn]
  have ta : ∀ m (a b : List Str), U9 m (a ++ b) = U9 m a ++ U9 m b := fun m a b => by unfold U9; rw [List.map_append]
  rw [ta, ta, show U9 (n + 1 + 1) (H0 ls wy (n + 1 + 1)) = U9 (n + 2) (H0 ls wy (n + 2)) from rfl]
  generalize (H8 w ls wy n).map lw = X at *
  generalize U9 n (D5 w ls wy n) = A at *
  generalize U9 (n + 1) (a9r w ls wy n) = B at *
  generalize U9 (n + 2) (H0 ls wy (n + 2)) = C at *
  generalize U9 (n + 1) (D5 w ls wy (n + 1)) = E at *
  generalize U9 (n + 1) (H0 ls wy (n + 1)) = F at *
  generalize b6c ls n = Y at *
  rw [List.perm_iff_count] at ih ⊢
  intro a
  have := ih a
  simp only [List.count_append] at this ⊢
  omega
theorem b12 (hls : ∀ p ∈ ls, 1 ≤ p.2 ∧ p.2 ≤ 30) : (b6c ls 30).Perm ls := by
 rw [List.perm_iff_count]
 intro a
 have key : ∀ n, (b6c ls n).count a = if 1 ≤ a.2 ∧ a.2 ≤ (n : Int) then ls.count a else 0 := by
  intro n
  induction n with
  | zero => rw [if_neg (by omega)]; rfl
  | succ n ih =>
   rw [a3N, List.count_append, ih]
   have e : (U9 (n + 1) (nmW ls (n + 1))).count a = if a.2 = ((n + 1 : Nat) : Int) then ls.count a else 0 := by
    unfold U9 nmW
    rw [List.map_map]
    by_cases q : a.2 = ((n + 1 : Nat) : Int)
    ·rw [if_pos q]
     clear ih hls
     induction ls with
     | nil => rfl
     | cons p ls ih =>
      rw [List.filter_cons]
      by_cases r : p.2 = ((n + 1 : Nat) : Int)
      ·rw [if_pos (decide_eq_true r), List.map_cons, List.count_cons, List.count_cons, ih]
       have : ((fun x : Str => (x, ((n + 1 : Nat) : Int))) ∘ fun p : Str × Int => p.1) p = p := Prod.ext rfl r.symm
       rw [this]
      ·rw [if_neg (by simpa using r), ih, List.count_cons, if_neg]
       ·rfl
       ·intro z
        have : p = a := by simpa using z
        exact r (this ▸ q)
    ·rw [if_neg q, List.count_eq_zero]
     intro z
     obtain ⟨p, _, e⟩ := List.mem_map.mp z
     exact q (by rw [← e]; rfl)
   rw [e]
   by_cases h1 : 1 ≤ a.2
   ·by_cases h2 : a.2 ≤ (n : Int)
    ·rw [if_pos ⟨h1, h2⟩, if_neg (by omega), if_pos ⟨h1, by omega⟩]; rfl
    ·by_cases h3 : a.2 = ((n + 1 : Nat) : Int)
     ·rw [if_neg (by omega), if_pos h3, if_pos ⟨h1, by omega⟩, Nat.zero_add]
     ·rw [if_neg (by omega), if_neg h3, if_neg (by omega)]
   ·rw [if_neg (by omega), if_neg (by omega), if_neg (by omega)]
 rw [key]
 split
 ·rfl
 ·rename_i q
  rw [eq_comm, List.count_eq_zero]
  intro z
  exact q (by have := hls a z; omega)
theorem a2z (k : a7C w h ls wy c) (hls : ∀ p ∈ ls, 1 ≤ p.2 ∧ p.2 ≤ 30) : ((H8 w ls wy 30).map lw).Perm ls := by
 have p := a2m k 30 (Nat.le_refl _)
 have e1 : U9 30 (D5 w ls wy 30) = [] := by rw [k.end_]; rfl
 have e2 : U9 (30 + 1) (H0 ls wy (30 + 1)) = [] := by unfold H0; rw [if_neg (by omega)]; rfl
 rw [e1, e2, List.append_nil, List.append_nil] at p
 exact p.trans (b12 hls)
def nzB (a : UC) : Bool := decide (a.2.2 ≠ 0)
theorem a2l (k : a7C w h ls wy c) : ∀ n, n ≤ 30 → (H8 w ls wy n).countP nzB = ((List.range n).map fun u => (D5 w ls wy u).length + lW wy (u + 1)).sum + (H0 ls wy (n + 1)).length
 | 0, _ => by
  have : H0 ls wy 1 = [] := by unfold H0; rw [k.first]; simp
  rw [this]
  rfl
 | n + 1, hn => by
  have ih := a2l k n (by omega)
  rw [S9, List.countP_append, ih, List.range_succ, List.map_append, List.sum_append]
  have hl := k.ok.lent (n + 1) hn
  rw [← T3] at hl
  have e1 : (H0 ls wy (n + 1)).length = lW wy (n + 1) := by
   unfold H0
   rw [if_pos hn, List.length_take]
   omega
  have e2 : ((n5 w ls wy 30 (n + 1)).map fun p => (((n + 1 : Nat) : Int), p.1, p.2)).countP nzB = (D5 w ls wy n).length + (H0 ls wy (n + 1 + 1)).length := by
   unfold n5 a7G H0 V3
   rw [if_pos ⟨by omega, by omega⟩, Nat.add_sub_cancel]
   have z1 : ∀ (xs : List Str), ((xs.map fun x => (x, (-1 : Int))).map fun p => (((n + 1 : Nat) : Int), p.1, p.2)).countP nzB = xs.length := fun xs => by
    rw [List.map_map, List.countP_map]
    exact List.countP_eq_length.mpr (fun _ _ => rfl)
   have z0 : ∀ (xs : List Str), ((xs.map fun x => (x, (0 : Int))).map fun p => (((n + 1 : Nat) : Int), p.1, p.2)).countP nzB = 0 := fun xs => by
    rw [List.map_map, List.countP_map, List.countP_eq_zero]
    intro x _ z
    have z' : decide ((0 : Int) ≠ 0) = true := z
    simp at z'
   have z2 : ∀ (xs : List Str), ((xs.map fun x => (x, (1 : Int))).map fun p => (((n + 1 : Nat) : Int), p.1, p.2)).countP nzB = xs.length := fun xs => by
    rw [List.map_map, List.countP_map]
    exact List.countP_eq_length.mpr (fun _ _ => rfl)
   by_cases h2 : n + 1 + 1 ≤ 30
   ·rw [if_pos h2, if_pos h2, List.map_append, List.map_append, List.countP_append, List.countP_append, z1, z0, z2]
    omega
   ·rw [if_neg h2, if_neg h2, List.append_nil, List.map_append, List.countP_append, z1, z0]
    rfl
  rw [e2, e1]
  simp
  omega
theorem b4K (k : a7C w h ls wy c) : ((H8 w ls wy 30).countP nzB : Int) = c := by
 rw [a2l k 30 (Nat.le_refl _), k.cams]
 have : H0 ls wy (30 + 1) = [] := by unfold H0; rw [if_neg (by omega)]
 rw [this, List.length_nil, Nat.add_zero]
theorem b1w : ∀ a ∈ H8 w ls wy 30, a.2.2 = 0 ∨ a.2.2 = 1 ∨ a.2.2 = -1 := by
 intro a ha
 unfold H8 at ha
 obtain ⟨u, _, ha⟩ := List.mem_flatMap.mp ha
 obtain ⟨p, hp, rfl⟩ := List.mem_map.mp ha
 show p.2 = 0 ∨ p.2 = 1 ∨ p.2 = -1
 unfold n5 at hp
 rcases List.mem_append.mp hp with q | q
 ·split at q
  ·unfold a7G at q
   rcases List.mem_append.mp q with q | q
   ·obtain ⟨x, _, rfl⟩ := List.mem_map.mp q; exact .inr (.inr rfl)
   ·obtain ⟨x, _, rfl⟩ := List.mem_map.mp q; exact .inl rfl
  ·exact nomatch q
 ·split at q
  ·unfold V3 at q
   obtain ⟨x, _, rfl⟩ := List.mem_map.mp q; exact .inr (.inl rfl)
  ·exact nomatch q
structure Laid (w h : Nat) (ls : List (Str × Int)) (c : Int) (units : List Int) (rows : List (List e9)) : Prop where
 hu : units.length = h
 hr : rows.length = h
 hw : ∀ r ∈ rows, r.length = w
 un : ∀ u ∈ units, 1 ≤ u ∧ u ≤ 30
 cells : ∃ (u0 : Int) (A : List UC), (i9 units rows).Perm ((u0, blank, 0) :: A) ∧ (A.map lw).Perm ls ∧ (∀ a ∈ A, a.2.2 = 0 ∨ a.2.2 = 1 ∨ a.2.2 = -1) ∧ (A.countP nzB : Int) = c
theorem laid (k : a7C w h ls wy c) (hls : ∀ p ∈ ls, 1 ≤ p.2 ∧ p.2 ≤ 30) (hl : ls.length < w * h) : Laid w h ls c (a9l h wy) (b5g w h ls wy) := by
 have e1 : (a9l h wy).length = (a4Q w h ls wy).length := by rw [a8Q k, a29 k]
 have pl := a2z k hls
 have hex : ∃ r ∈ a4Q w h ls wy, none ∈ r := by
  apply Classical.byContradiction
  intro hn
  have := a2a e1 a34 (fun r hr z => hn ⟨r, hr, z⟩)
  rw [a2d k, a29 k] at this
  have := pl.length_eq
  rw [List.length_map] at this
  omega
 obtain ⟨u, hu, p1, p2, p3⟩ := b1J e1 hex
 rw [a2d k] at p1
 exact ⟨a8Q k, by unfold b5g; rw [p2, a29 k], p3 w a34, b7G k, u, H8 w ls wy 30, p1, pl, b1w, b4K k⟩
end
end BV
namespace BV
open PySem L2
def IsMinP (P : Int → Prop) : Option Int → Prop
 | none => ∀ c, ¬ P c
 | some c => P c ∧ ∀ c', P c' → c ≤ c'
theorem IsMinP.congr {P Q : Int → Prop} (h : ∀ c, P c ↔ Q c) : ∀ {o : Option Int}, IsMinP P o → IsMinP Q o
 | none, q => fun c z => q c ((h c).mpr z)
 | some c, q => ⟨(h c).mp q.1, fun c' z => q.2 c' ((h c').mpr z)⟩
def c2L : Option Int → Option Int → Option Int
 | none, o => o
 | some a, none => some a
 | some a, some b => if b < a then some b else some a
theorem IsMinP.or {P Q : Int → Prop} : ∀ {o o' : Option Int}, IsMinP P o → IsMinP Q o' → IsMinP (fun c => P c ∨ Q c) (c2L o o')
 | none, none, p, q => fun c z => z.elim (p c) (q c)
 | none, some b, p, q => ⟨.inr q.1, fun c' z => z.elim (fun y => absurd y (p c')) (q.2 c')⟩
 | some a, none, p, q => ⟨.inl p.1, fun c' z => z.elim (p.2 c') (fun y => absurd y (q c'))⟩
 | some a, some b, p, q => by
  show IsMinP _ (if b < a then some b else some a)
  split
  ·refine ⟨.inr q.1, fun c' z => z.elim (fun y => ?_) (q.2 c')⟩
   have := p.2 c' y
   omega
  ·refine ⟨.inl p.1, fun c' z => z.elim (p.2 c') (fun y => ?_)⟩
   have := q.2 c' y
   omega
theorem IsMinP.uniq {P : Int → Prop} : ∀ {o o' : Option Int}, IsMinP P o → IsMinP P o' → o = o'
 | none, none, _, _ => rfl
 | none, some b, p, q => absurd q.1 (p b)
 | some a, none, p, q => absurd p.1 (q a)
 | some a, some b, p, q => by
  have h1 := p.2 b q.1
  have h2 := q.2 a p.1
  rw [show a = b by omega]
inductive Tl (w : Int) (cs : List Nat) : Nat → Int → Int → Int → Prop
 | stop {u : Nat} {r s : Int} : 30 < u → 0 ≤ s → Tl w cs u r s 0
 | step {u : Nat} {r s m l a dc c : Int} : u ≤ 30 → 0 ≤ m → m ≤ r → 0 ≤ l → l ≤ ct cs u → l ≤ max 0 s → onP w (ct cs u) (ct cs (u + 1)) s m l = some (a, dc) → Tl w cs (u + 1) (r - m) a c → Tl w cs u r s (dc + c)
theorem Tl.mono {w : Int} {cs : List Nat} {u : Nat} {r s c : Int} (t : Tl w cs u r s c) : ∀ {r' : Int}, r ≤ r' → Tl w cs u r' s c := by
 induction t with
 | stop h1 h2 => exact fun _ => .stop h1 h2
 | step h1 h2 h3 h4 h5 h6 h7 _ ih => exact fun h => .step h1 h2 (by omega) h4 h5 h6 h7 (ih (by omega))
def Opt (w : Int) (cs : List Nat) (u : Nat) (r s m l c : Int) : Prop := ∃ a dc c', onP w (ct cs u) (ct cs (u + 1)) s m l = some (a, dc) ∧ Tl w cs (u + 1) (r - m) a c' ∧ c = dc + c'
theorem b5A {w : Int} {cs : List Nat} {u : Nat} {r s c : Int} (hu : u ≤ 30) : Tl w cs u r s c ↔ ∃ m l, 0 ≤ m ∧ m ≤ r ∧ 0 ≤ l ∧ l ≤ ct cs u ∧ l ≤ max 0 s ∧ Opt w cs u r s m l c := by
 constructor
 ·intro t
  cases t with
  | stop h _ => omega
  | step h1 h2 h3 h4 h5 h6 h7 h8 => exact ⟨_, _, h2, h3, h4, h5, h6, _, _, _, h7, h8, rfl⟩
 ·rintro ⟨m, l, h2, h3, h4, h5, h6, a, dc, c', h7, h8, rfl⟩
  exact .step hu h2 h3 h4 h5 h6 h7 h8
section
variable {w : Int} {cs : List Nat}
theorem b5J {h : Int} {u : Nat} {r s c' : Int} (t : Tl w cs u r s c') : ∀ {v : Nat} {st : Int × Int} {c : Int} {ps : List (Int × Int)}, Way w h cs v st c ps → u = v + 1 → v ≤ 30 → r = h - st.1 → s = st.2 → ∃ st' ps', Way w h cs 30 st' (c + c') ps' ∧ 0 ≤ st'.2 := by
 induction t with
 | @stop u r s h1 h2 =>
  intro v st c ps y e1 e2 e3 e4
  have : v = 30 := by omega
  subst this
  exact ⟨st, ps, by rw [Int.add_zero]; exact y, by omega⟩
 | @step u r s m l a dc c' h1 h2 h3 h4 h5 h6 h7 h8 ih =>
  intro v st c ps y e1 e2 e3 e4
  subst e1 e4
  have y2 := Way.succ y h2 h4 (by omega) h5 h6 h7
  obtain ⟨st', ps', y3, h9⟩ := ih y2 rfl (by omega) (by show r - m = h - (st.1 + m); omega) rfl
  exact ⟨st', ps', by rw [← Int.add_assoc]; exact y3, h9⟩
theorem b90 {h : Int} {st : Int × Int} {c : Int} {ps : List (Int × Int)} (y : Way w h cs 30 st c ps) (hs : 0 ≤ st.2) : Tl w cs 1 h 0 c := by
 obtain ⟨hl, sts, cc, h0, c0, hu, cu, hst⟩ := y.idx
 have key : ∀ k, k ≤ 30 → Tl w cs (30 - k + 1) (h - (sts (30 - k)).1) (sts (30 - k)).2 (c - cc (30 - k)) := by
  intro k
  induction k with
  | zero =>
   intro _
   show Tl w cs 31 (h - (sts 30).1) (sts 30).2 (c - cc 30)
   rw [hu, cu, Int.sub_self]
   exact .stop (by omega) hs
  | succ k ih =>
   intro hk
   have ih := ih (by omega)
   obtain ⟨v, hv⟩ : ∃ v, 30 - (k + 1) = v := ⟨_, rfl⟩
   have hv2 : 30 - k = v + 1 := by omega
   rw [hv2] at ih
   rw [hv]
   obtain ⟨m, l, a, dc, g⟩ := hst v (by omega)
   have nx := g.nx
   rw [nx, g.nc] at ih
   have := Tl.step (r := h - (sts v).1) (show v + 1 ≤ 30 by omega) g.m0 (by have := g.mh; omega) g.l0 g.lc g.ls g.on (by rw [show h - (sts v).1 - m = h - ((sts v).1 + m) by omega]; exact ih)
   rw [show dc + (c - (cc v + dc)) = c - cc v by omega] at this
   exact this
 have := key 30 (Nat.le_refl _)
 rw [show 30 - 30 = 0 from rfl, h0, c0] at this
 simpa using this
theorem b4S {w h : Nat} {ls : List (Str × Int)} {c : Int} (b : c2D w h ls c) : IsMinP (Tl (w : Int) (o9 ls) 1 (h : Int) 0) (some c) := by
 obtain ⟨⟨st, ps, y, hs, _⟩, hl⟩ := b
 refine ⟨b90 y hs, fun c' t => ?_⟩
 obtain ⟨st', ps', y', hs'⟩ := b5J t (h := (h : Int)) Way.zero rfl (by omega) (by simp) rfl
 rw [Int.zero_add] at y'
 exact hl st' c' ps' y' hs'
theorem b3L {w h : Nat} {ls : List (Str × Int)} (b : ∀ st c ps, Way (w : Int) (h : Int) (o9 ls) 30 st c ps → 0 ≤ st.2 → False) : IsMinP (Tl (w : Int) (o9 ls) 1 (h : Int) 0) none := fun c t => by
 obtain ⟨st', ps', y', hs'⟩ := b5J t (h := (h : Int)) Way.zero rfl (by omega) (by simp) rfl
 exact b _ _ _ y' hs'
theorem b4Y {u : Nat} {r s m0 m l c : Int} (hw : 0 < w) (h1 : ct cs u + ct cs (u + 1) < w * m0 - wt s) (hm : m0 ≤ m) (l0 : 0 ≤ l) (lc : l ≤ ct cs u) (o : Opt w cs u r s m l c) : Opt w cs u r s m0 l c := by
 obtain ⟨a, dc, c', e, t, rfl⟩ := o
 have c0 := A7 cs u
 have c1 := A7 cs (u + 1)
 have hmm : w * m0 ≤ w * m := Int.mul_le_mul_of_nonneg_left hm (by omega)
 unfold onP at e
 split at e
 ·cases e
 ·injection e with e
  injection e with ea ed
  refine ⟨ct cs (u + 1), wt s + l, c', ?_, ?_, by omega⟩
  ·unfold onP
   rw [if_neg (by omega)]
   congr 2
   omega
  ·have : a = ct cs (u + 1) := by omega
   rw [← this]
   exact t.mono (by omega)
end
end BV
namespace BV
open PySem L2
theorem b24 (L : List (List Int × D)) (k k' : List Int) (v : D) : a8w (a58 L k v) k' = if k' = k then some v else a8w L k' := by
 unfold a58
 by_cases ha : L.any (fun p => decide (p.1 = k)) = true
 ·rw [if_pos ha]
  unfold a8w
  rw [List.find?_map]
  have e : ((fun p : List Int × D => decide (p.1 = k')) ∘ fun p => if p.1 = k then (p.1, v) else p) = fun p => decide (p.1 = k') := by
   funext p
   simp only [Function.comp]
   split <;> rfl
  rw [e]
  cases q : L.find? fun p => decide (p.1 = k') with
  | none =>
   rw [if_neg]
   ·rfl
   ·intro hk
    subst hk
    rw [List.any_eq_true] at ha
    obtain ⟨p, hp, e⟩ := ha
    exact List.find?_eq_none.mp q p hp e
  | some p =>
   have hp0 := List.find?_some q
   have hp : p.1 = k' := of_decide_eq_true hp0
   simp only [Option.map_some]
   by_cases hk : k' = k
   ·rw [if_pos hk, if_pos (hp.trans hk)]
   ·rw [if_neg hk, if_neg (fun z => hk (hp.symm.trans z))]
 ·rw [if_neg ha]
  unfold a8w
  rw [List.find?_append]
  by_cases hk : k' = k
  ·subst hk
   have : L.find? (fun p => decide (p.1 = k')) = none := by
    rw [List.find?_eq_none]
    intro p hp e
    exact ha (List.any_eq_true.mpr ⟨p, hp, e⟩)
   rw [this, if_pos rfl]
   simp
  ·rw [if_neg hk]
   have : List.find? (fun p : List Int × D => decide (p.1 = k')) [(k, v)] = none := by simp [Ne.symm hk]
   rw [this, Option.or_none]
theorem a4J (L : List (List Int × D)) (k : List Int) (v : D) : (a58 L k v).map (·.1) = if k ∈ L.map (·.1) then L.map (·.1) else L.map (·.1) ++ [k] := by
 unfold a58
 have : L.any (fun p => decide (p.1 = k)) = decide (k ∈ L.map (·.1)) := by
  rw [Bool.eq_iff_iff, List.any_eq_true, decide_eq_true_eq, List.mem_map]
  constructor
  ·rintro ⟨p, hp, h⟩; exact ⟨p, hp, of_decide_eq_true h⟩
  ·rintro ⟨p, hp, h⟩; exact ⟨p, hp, decide_eq_true h⟩
 rw [this]
 by_cases h : k ∈ L.map (·.1)
 ·rw [if_pos (decide_eq_true h), if_pos h, List.map_map]
  refine List.map_congr_left fun p _ => ?_
  simp only [Function.comp]
  split <;> rfl
 ·rw [if_neg (by simpa using h), if_neg h, List.map_append]
  rfl
theorem b1y (L : List (List Int × D)) (k : List Int) (v : D) : ∀ x ∈ (a58 L k v).map (·.2), x = v ∨ x ∈ L.map (·.2) := by
 intro x hx
 unfold a58 at hx
 split at hx
 ·obtain ⟨p, hp, rfl⟩ := List.mem_map.mp hx
  obtain ⟨q, hq, rfl⟩ := List.mem_map.mp hp
  split
  ·exact .inl rfl
  ·exact .inr (List.mem_map.mpr ⟨q, hq, rfl⟩)
 ·rw [List.map_append] at hx
  rcases List.mem_append.mp hx with h | h
  ·exact .inr h
  ·exact .inl (by simpa using h)
def oiD : Option Int → D
 | none => .none
 | some i => .int i
structure c3G (u : Nat) (r s : Int) : Prop where
 u1 : u ≤ 30
 r0 : 0 ≤ r
 r1 : r ≤ 15
 s0 : -60 ≤ s
 s1 : s ≤ 60
def a2H (u : Nat) (r s : Int) : List Int := [(u : Int), r, s]
theorem b4d {u u' : Nat} {r r' s s' : Int} (h : a2H u r s = a2H u' r' s') : u = u' ∧ r = r' ∧ s = s' := by
 simp only [a2H, List.cons.injEq, and_true] at h
 exact ⟨by omega, h.2.1, h.2.2⟩
structure KOk (w : Int) (cs : List Nat) (K : List (List Int × D)) : Prop where
 nd : (K.map (·.1)).Nodup
 key : ∀ k ∈ K.map (·.1), ∃ u r s, k = a2H u r s ∧ c3G u r s
 val : ∀ k v, a8w K k = some v → ∀ u r s, k = a2H u r s → ∃ o, v = oiD o ∧ IsMinP (Tl w cs u r s) o
 lf : ∀ x ∈ K.map (·.2), lf x = true
def c1v (k : List Int) : Nat := match k with
 | [u, r, s] => ((u * 16 + r) * 121 + (s + 60)).toNat
 | _ => 0
theorem KOk.len {w : Int} {cs : List Nat} {K : List (List Int × D)} (k : KOk w cs K) : K.length ≤ 60016 := by
 have nd : ((K.map (·.1)).map c1v).Nodup := by
  refine List.pairwise_map.mpr (List.Pairwise.imp_of_mem ?_ k.nd)
  intro a b ha hb hne e
  obtain ⟨u, r, s, rfl, b1, b2, b3, b4, b5⟩ := k.key a ha
  obtain ⟨u', r', s', rfl, c1, c2, c3, c4, c5⟩ := k.key b hb
  apply hne
  have e' : (((u : Int) * 16 + r) * 121 + (s + 60)).toNat = (((u' : Int) * 16 + r') * 121 + (s' + 60)).toNat := e
  have : u = u' ∧ r = r' ∧ s = s' := by omega
  obtain ⟨rfl, rfl, rfl⟩ := this
  rfl
 have := a0v nd (m := List.range 60016) fun x hx => by
  obtain ⟨a, ha, rfl⟩ := List.mem_map.mp hx
  obtain ⟨u, r, s, rfl, b1, b2, b3, b4, b5⟩ := k.key a ha
  rw [List.mem_range]
  show (((u : Int) * 16 + r) * 121 + (s + 60)).toNat < 60016
  omega
 rw [List.length_range, List.length_map, List.length_map] at this
 exact this
theorem KOk.nil {w : Int} {cs : List Nat} : KOk w cs [] := by
 refine ⟨List.nodup_nil, ?_, ?_, ?_⟩
 ·intro k h; exact nomatch h
 ·intro k v h; cases h
 ·intro x h; exact nomatch h
theorem KOk.put {w : Int} {cs : List Nat} {K : List (List Int × D)} (k : KOk w cs K) {u : Nat} {r s : Int} {o : Option Int} (b : c3G u r s) (m : IsMinP (Tl w cs u r s) o) : KOk w cs (a58 K (a2H u r s) (oiD o)) := by
 refine ⟨?_, fun k' hk' => ?_, fun k' v hv u' r' s' hk' => ?_, fun x hx => ?_⟩
 ·rw [a4J]
  split
  ·exact k.nd
  ·rename_i hk
   rw [List.nodup_append]
   exact ⟨k.nd, by simp, fun a ha b' hb => by rw [List.mem_singleton.mp hb]; exact fun z => hk (z ▸ ha)⟩
 ·rw [a4J] at hk'
  split at hk'
  ·exact k.key k' hk'
  ·rw [List.mem_append, List.mem_singleton] at hk'
   rcases hk' with h | rfl
   ·exact k.key k' h
   ·exact ⟨u, r, s, rfl, b⟩
 ·rw [b24] at hv
  split at hv
  ·rename_i e
   cases hv
   rw [hk'] at e
   obtain ⟨rfl, rfl, rfl⟩ := b4d e
   exact ⟨o, rfl, m⟩
  ·exact k.val k' v hv u' r' s' hk'
 ·rcases b1y _ _ _ x hx with rfl | h
  ·cases o <;> rfl
  ·exact k.lf x h
def a2g (ls : List (Str × Int)) : D := .list ((List.range 33).map fun u => PyData.int (a3G ls u : Int))
theorem a3C {ls : List (Str × Int)} {u : Nat} (h : u ≤ 31) : gIx (a2g ls) (.int (u : Int)) = some (.val (.int (ct (o9 ls) u))) := by
 unfold a2g
 rw [E9, C7 (by rw [List.getElem?_map, List.getElem?_range (by omega)]; rfl), a2f (by omega)]
 rfl
def b0d (w : Nat) (ls : List (Str × Int)) (u : Nat) (r s : Int) (q : Nat) (x6 x7 x8 x9 x10 x11 x12 x13 : Option T) : En :=
 [some (.val (.int (w : Int))), some (.val (a2g ls)), some (.val (.int (u : Int))), some (.val (.int r)), some (.val (.int s)), some (.cel q), x6, x7, x8, x9, x10, x11, x12, x13]
def FOk (w : Nat) (ls : List (Str × Int)) (q : Nat) (f : Fn) (u : Nat) : Prop := ∀ (S : Sto) (r s : Int) (K : List (List Int × D)), 0 ≤ r → r ≤ 15 → -60 ≤ s → s ≤ 60 → S[q]? = some (.dct true (kvT K)) → KOk (w : Int) (o9 ls) K →
 ∃ o K', f [.val (.int (w : Int)), .val (a2g ls), .val (.int (u : Int)), .val (.int r), .val (.int s), .cel q] S = .ok (.val (oiD o)) (S.set q (.dct true (kvT K'))) ∧ IsMinP (Tl (w : Int) (o9 ls) u r s) o ∧ KOk (w : Int) (o9 ls) K'
section
variable {w : Nat} {ls : List (Str × Int)} {q : Nat} {f : Fn} {u : Nat}
theorem set_set {S : Sto} {a b : Ce} : (S.set q a).set q b = S.set q b := List.set_set ..
theorem b2T {o p : Option Int} {x : Int} : c2L o (p.map (x + ·)) = match p with
 | none => o
 | some m => (match o with
  | none => some (x + m)
  | some b => if x + m < b then some (x + m) else some b) := by
 cases o <;> cases p <;> rfl
theorem b3i (hf : FOk w ls q f (u + 1)) (hu : u ≤ 30) (hw : w ≤ 15) (hl : ls.length ≤ 60) {S : Sto} {r s : Int} {K : List (List Int × D)} (hr : r ≤ 15) {m l : Nat} (hm : (m : Int) ≤ r) (hlc : (l : Int) ≤ ct (o9 ls) u) (hS : S[q]? = some (.dct true (kvT K))) (k : KOk (w : Int) (o9 ls) K) {P : Int → Prop} {o : Option Int} (ho : IsMinP P o) {x6 x12 x13 : Option T} :
  ∃ o' K' z12 z13, F3 f (b0d w ls u r s q x6 (some (.val (oiD o))) (some (.val (.int (wt s)))) (some (.val (.int (m : Int)))) (some (.val (.int ((w : Int) * (m : Int) - wt s)))) (some (.val (.int (l : Int)))) x12 x13) S =
   .nx (b0d w ls u r s q x6 (some (.val (oiD o'))) (some (.val (.int (wt s)))) (some (.val (.int (m : Int)))) (some (.val (.int ((w : Int) * (m : Int) - wt s)))) (some (.val (.int (l : Int)))) z12 z13) (S.set q (.dct true (kvT K'))) ∧
   IsMinP (fun c => P c ∨ Opt (w : Int) (o9 ls) u r s (m : Int) (l : Int) c) o' ∧ KOk (w : Int) (o9 ls) K' := by
 have i1 := a3C (ls := ls) (u := u) (by omega)
 have i2 := a3C (ls := ls) (u := u + 1) (by omega)
 rw [show ((u + 1 : Nat) : Int) = (u : Int) + 1 by omega] at i2
 have c0 := A7 (o9 ls) (u + 1)
 have c1 := b2z (ls := ls) u
 have c2 := b2z (ls := ls) (u + 1)
 unfold F3 b0d
 by_cases hroom : (w : Int) * (m : Int) - wt s < 0
 ·refine ⟨o, K, some (.val (.int (ct (o9 ls) u - (l : Int)))), x13, ?_, ho.congr fun c => ⟨.inl, fun z => z.elim id fun ⟨a, dc, c', e, _⟩ => ?_⟩, k⟩
  ·have hSS : S.set q (.dct true (kvT K)) = S := by
    refine List.ext_getElem? fun j => ?_
    rw [List.getElem?_set]
    split
    ·rename_i e
     subst e
     rw [hS, if_pos (List.getElem?_eq_some_iff.mp hS).1]
    ·rfl
   rw [hSS]
   have hr' : ¬ (0 ≤ (w : Int) * (m : Int) - wt s) := by omega
   generalize (w : Int) * (m : Int) - wt s = R at *
   generalize a2g ls = C at *
   refine b8 (ρ1 := [some (.val (.int (w : Int))), some (.val C), some (.val (.int (u : Int))), some (.val (.int r)), some (.val (.int s)), some (.cel q), x6, some (.val (oiD o)), some (.val (.int (wt s))), some (.val (.int (m : Int))), some (.val (.int R)), some (.val (.int (l : Int))), some (.val (.int (ct (o9 ls) u - (l : Int)))), x13]) (S1 := S) (by simp [i1]) ?_
   refine Z6 (S1 := S) (by simp [hr']) (by simp)
  ·unfold onP at e
   rw [if_pos hroom] at e
   cases e
 ·have hon : onP (w : Int) (ct (o9 ls) u) (ct (o9 ls) (u + 1)) s (m : Int) (l : Int) = some (min ((w : Int) * (m : Int) - wt s - (ct (o9 ls) u - (l : Int))) (ct (o9 ls) (u + 1)), wt s + (l : Int)) := by
   unfold onP
   rw [if_neg hroom]
  obtain ⟨p, K', ef, hp, k'⟩ := hf S (r - (m : Int)) (min ((w : Int) * (m : Int) - wt s - (ct (o9 ls) u - (l : Int))) (ct (o9 ls) (u + 1))) K (by omega) (by omega) (by omega) (by omega) hS k
  have hopt : IsMinP (Opt (w : Int) (o9 ls) u r s (m : Int) (l : Int)) (p.map ((wt s + (l : Int)) + ·)) := by
   cases p with
   | none =>
    rintro c ⟨a, dc, c', e, t, rfl⟩
    rw [hon] at e
    cases e
    exact hp c' t
   | some b =>
    refine ⟨⟨_, _, b, hon, hp.1, rfl⟩, ?_⟩
    rintro c ⟨a, dc, c', e, t, rfl⟩
    rw [hon] at e
    cases e
    have := hp.2 c' t
    show wt s + (l : Int) + b ≤ _
    omega
  refine ⟨c2L o (p.map ((wt s + (l : Int)) + ·)), K', some (.val (.int (ct (o9 ls) u - (l : Int)))), some (.val (oiD p)), ?_, ho.or hopt, k'⟩
  have mn : (if ct (o9 ls) (u + 1) < (w : Int) * (m : Int) - wt s - (ct (o9 ls) u - (l : Int)) then ct (o9 ls) (u + 1) else (w : Int) * (m : Int) - wt s - (ct (o9 ls) u - (l : Int))) = min ((w : Int) * (m : Int) - wt s - (ct (o9 ls) u - (l : Int))) (ct (o9 ls) (u + 1)) := by split <;> omega
  rw [← mn] at ef
  rw [show ((u + 1 : Nat) : Int) = (u : Int) + 1 by omega] at ef
  have hr' : 0 ≤ (w : Int) * (m : Int) - wt s := by omega
  rw [b2T]
  generalize (w : Int) * (m : Int) - wt s = R at *
  generalize a2g ls = C at *
  refine b8 (ρ1 := [some (.val (.int (w : Int))), some (.val C), some (.val (.int (u : Int))), some (.val (.int r)), some (.val (.int s)), some (.cel q), x6, some (.val (oiD o)), some (.val (.int (wt s))), some (.val (.int (m : Int))), some (.val (.int R)), some (.val (.int (l : Int))), some (.val (.int (ct (o9 ls) u - (l : Int)))), x13]) (S1 := S) (by simp [i1]) ?_
  refine b0n (S1 := S) (by simp [hr']) ?_
  refine b8 (ρ1 := [some (.val (.int (w : Int))), some (.val C), some (.val (.int (u : Int))), some (.val (.int r)), some (.val (.int s)), some (.cel q), x6, some (.val (oiD o)), some (.val (.int (wt s))), some (.val (.int (m : Int))), some (.val (.int R)), some (.val (.int (l : Int))), some (.val (.int (ct (o9 ls) u - (l : Int)))), some (.val (oiD p))]) (S1 := S.set q (.dct true (kvT K'))) (by simp [i2, ef]) ?_
  cases p with
  | none => exact Z6 (S1 := S.set q (.dct true (kvT K'))) (by simp [oiD]) (by simp)
  | some b =>
   cases o with
   | none => exact b0n (S1 := S.set q (.dct true (kvT K'))) (by simp [oiD]) (by simp [oiD])
   | some a =>
    by_cases h : wt s + (l : Int) + b < a
    ·simp only [if_pos h]
     exact b0n (S1 := S.set q (.dct true (kvT K'))) (by simp [oiD, h]) (by simp [oiD])
    ·simp only [if_neg h]
     exact Z6 (S1 := S.set q (.dct true (kvT K'))) (by simp [oiD, h]) (by simp)
theorem b22 (hf : FOk w ls q f (u + 1)) (hu : u ≤ 30) (hw : w ≤ 15) (hl : ls.length ≤ 60) {S : Sto} {r s : Int} {K : List (List Int × D)} (hr : r ≤ 15) {m : Nat} (hm : (m : Int) ≤ r) (hS : S[q]? = some (.dct true (kvT K))) (k : KOk (w : Int) (o9 ls) K) {P : Int → Prop} {o : Option Int} (ho : IsMinP P o) {x6 x10 x11 x12 x13 : Option T} :
  ∃ o' K' z10 z11 z12 z13, o0 f (b0d w ls u r s q x6 (some (.val (oiD o))) (some (.val (.int (wt s)))) (some (.val (.int (m : Int)))) x10 x11 x12 x13) S =
   (if ct (o9 ls) u + ct (o9 ls) (u + 1) < (w : Int) * (m : Int) - wt s then Fl.bk else Fl.nx) (b0d w ls u r s q x6 (some (.val (oiD o'))) (some (.val (.int (wt s)))) (some (.val (.int (m : Int)))) z10 z11 z12 z13) (S.set q (.dct true (kvT K'))) ∧
   IsMinP (fun c => P c ∨ ∃ l : Int, 0 ≤ l ∧ l ≤ ct (o9 ls) u ∧ l ≤ max 0 s ∧ Opt (w : Int) (o9 ls) u r s (m : Int) l c) o' ∧ KOk (w : Int) (o9 ls) K' := by
 have i1 := a3C (ls := ls) (u := u) (by omega)
 have i2 := a3C (ls := ls) (u := u + 1) (by omega)
 rw [show ((u + 1 : Nat) : Int) = (u : Int) + 1 by omega] at i2
 have cu0 := A7 (o9 ls) u
 have c1 := b2z (ls := ls) u
 have hSS : S.set q (.dct true (kvT K)) = S := by
  refine List.ext_getElem? fun j => ?_
  rw [List.getElem?_set]
  split
  ·rename_i e
   subst e
   rw [hS, if_pos (List.getElem?_eq_some_iff.mp hS).1]
  ·rfl
 have hq := (List.getElem?_eq_some_iff.mp hS).1
 obtain ⟨ρ', S', e, o', K', z11, z12, z13, rfl, rfl, ho', k'⟩ := D7 (b := f8 11) (body := F3 f)
  (fun i ρ S' => ∃ o' K' z11 z12 z13, ρ = b0d w ls u r s q x6 (some (.val (oiD o'))) (some (.val (.int (wt s)))) (some (.val (.int (m : Int)))) (some (.val (.int ((w : Int) * (m : Int) - wt s)))) z11 z12 z13 ∧ S' = S.set q (.dct true (kvT K')) ∧
   IsMinP (fun c => P c ∨ ∃ l : Int, 0 ≤ l ∧ l < (i : Int) ∧ Opt (w : Int) (o9 ls) u r s (m : Int) l c) o' ∧ KOk (w : Int) (o9 ls) K')
  (j8 0 (U7 (ct (o9 ls) u) s)) 0 (b0d w ls u r s q x6 (some (.val (oiD o))) (some (.val (.int (wt s)))) (some (.val (.int (m : Int)))) (some (.val (.int ((w : Int) * (m : Int) - wt s)))) x11 x12 x13) S
  ⟨o, K, x11, x12, x13, rfl, hSS.symm, ho.congr fun c => ⟨.inl, fun z => z.elim id fun ⟨l, h1, h2, _⟩ => by omega⟩, k⟩ (by
   rintro i d ρ S' hd ⟨o', K', z11, z12, z13, rfl, rfl, ho', k'⟩
   obtain ⟨hi, rfl⟩ := J8 hd
   rw [Nat.zero_add] at ho'
   unfold U7 at hi
   obtain ⟨o2, K2, y12, y13, e2, ho2, k2⟩ := b3i hf hu hw hl (S := S.set q (.dct true (kvT K'))) (s := s) hr hm (l := i) (by omega) (by rw [List.getElem?_set, if_pos rfl, if_pos hq]) k' ho' (x6 := x6) (x12 := z12) (x13 := z13)
   refine ⟨_, rfl, _, _, .inl e2, o2, K2, _, y12, y13, rfl, set_set, ho2.congr fun c => ?_, k2⟩
   rw [Nat.zero_add]
   constructor
   ·rintro ((h | ⟨l, h1, h2, h3⟩) | h)
    ·exact .inl h
    ·exact .inr ⟨l, h1, by omega, h3⟩
    ·exact .inr ⟨i, by omega, by omega, h⟩
   ·rintro (h | ⟨l, h1, h2, h3⟩)
    ·exact .inl (.inl h)
    ·by_cases z : l = (i : Int)
     ·rw [z] at h3; exact .inr h3
     ·exact .inl (.inr ⟨l, h1, by omega, h3⟩))
 rw [Nat.zero_add, E4] at ho'
 refine ⟨o', K', some (.val (.int ((w : Int) * (m : Int) - wt s))), z11, z12, z13, ?_, ho'.congr fun c => ?_, k'⟩
 ·have mu : E2 (.int (w : Int)) (.int (m : Int)) = some (.val (.int ((w : Int) * (m : Int)))) := Z8 (Q8 (by omega) (by omega)) (Q8 (by omega) (by omega))
  have gr : N6 [.int ((if (if s > 0 then s else 0) < ct (o9 ls) u then (if s > 0 then s else 0) else ct (o9 ls) u) + 1)] = some (j8 0 (U7 (ct (o9 ls) u) s)) := by
   have : (if (if s > 0 then s else 0) < ct (o9 ls) u then (if s > 0 then s else 0) else ct (o9 ls) u) + 1 = ((U7 (ct (o9 ls) u) s : Nat) : Int) := by
    unfold U7
    split <;> split <;> omega
   rw [this]
   exact a0a (y0 (by unfold U7; omega))
  unfold o0
  unfold b0d at *
  generalize (w : Int) * (m : Int) = WM at *
  generalize a2g ls = C at *
  refine b8 (ρ1 := [some (.val (.int (w : Int))), some (.val C), some (.val (.int (u : Int))), some (.val (.int r)), some (.val (.int s)), some (.cel q), x6, some (.val (oiD o)), some (.val (.int (wt s))), some (.val (.int (m : Int))), some (.val (.int (WM - wt s))), x11, x12, x13]) (S1 := S) (by simp [mu]) ?_
  refine b8 (ρ1 := [some (.val (.int (w : Int))), some (.val C), some (.val (.int (u : Int))), some (.val (.int r)), some (.val (.int s)), some (.cel q), x6, some (.val (oiD o')), some (.val (.int (wt s))), some (.val (.int (m : Int))), some (.val (.int (WM - wt s))), z11, z12, z13]) (S1 := S.set q (.dct true (kvT K'))) (by rw [← e]; simp [i1, gr]) ?_
  by_cases h : ct (o9 ls) u + ct (o9 ls) (u + 1) < WM - wt s
  ·rw [if_pos h]
   exact b0n (S1 := S.set q (.dct true (kvT K'))) (by simp [i1, i2, h]) (by simp)
  ·rw [if_neg h]
   exact Z6 (S1 := S.set q (.dct true (kvT K'))) (by simp [i1, i2, h]) (by simp)
 ·constructor
  ·rintro (h | ⟨l, h1, h2, h3⟩)
   ·exact .inl h
   ·unfold U7 at h2
    exact .inr ⟨l, h1, by omega, by omega, h3⟩
  ·rintro (h | ⟨l, h1, h2, h3, h4⟩)
   ·exact .inl h
   ·exact .inr ⟨l, h1, by unfold U7; omega, h4⟩
theorem a4b (hf : FOk w ls q f (u + 1)) (hu : u ≤ 30) (hw1 : 1 ≤ w) (hw : w ≤ 15) (hl : ls.length ≤ 60) {r s : Int} (hr : r ≤ 15) {x6 : Option T} : ∀ (n i : Nat) (S : Sto) (K : List (List Int × D)) (o : Option Int) (x9 x10 x11 x12 x13 : Option T), ((i + n : Nat) : Int) = r + 1 → S[q]? = some (.dct true (kvT K)) → KOk (w : Int) (o9 ls) K →
  IsMinP (fun c => ∃ m l : Int, 0 ≤ m ∧ m < (i : Int) ∧ 0 ≤ l ∧ l ≤ ct (o9 ls) u ∧ l ≤ max 0 s ∧ Opt (w : Int) (o9 ls) u r s m l c) o →
  ∃ o' K' z9 z10 z11 z12 z13, Y3 (f8 9) (o0 f) (j8 (i : Int) n) (b0d w ls u r s q x6 (some (.val (oiD o))) (some (.val (.int (wt s)))) x9 x10 x11 x12 x13) S = .nx (b0d w ls u r s q x6 (some (.val (oiD o'))) (some (.val (.int (wt s)))) z9 z10 z11 z12 z13) (S.set q (.dct true (kvT K'))) ∧ IsMinP (Tl (w : Int) (o9 ls) u r s) o' ∧ KOk (w : Int) (o9 ls) K'
 | 0, i, S, K, o, x9, x10, x11, x12, x13, hn, hS, k, ho => by
  have hSS : S.set q (.dct true (kvT K)) = S := by
   refine List.ext_getElem? fun j => ?_
   rw [List.getElem?_set]
   split
   ·rename_i e
    subst e
    rw [hS, if_pos (List.getElem?_eq_some_iff.mp hS).1]
   ·rfl
  refine ⟨o, K, x9, x10, x11, x12, x13, by rw [hSS]; rfl, ho.congr fun c => ?_, k⟩
  rw [b5A hu]
  constructor
  ·rintro ⟨m, l, h1, h2, h3⟩; exact ⟨m, l, h1, by omega, h3⟩
  ·rintro ⟨m, l, h1, h2, h3⟩; exact ⟨m, l, h1, by omega, h3⟩
 | n + 1, i, S, K, o, x9, x10, x11, x12, x13, hn, hS, k, ho => by
  have hq := (List.getElem?_eq_some_iff.mp hS).1
  obtain ⟨o1, K1, y10, y11, y12, y13, e1, ho1, k1⟩ := b22 hf hu hw hl (S := S) (s := s) hr (m := i) (by omega) hS k ho (x6 := x6) (x10 := x10) (x11 := x11) (x12 := x12) (x13 := x13)
  rw [a5R]
  have eb : ∀ (Y : Fl) , Y3 (f8 9) (o0 f) (.int (i : Int) :: j8 ((i : Int) + 1) n) (b0d w ls u r s q x6 (some (.val (oiD o))) (some (.val (.int (wt s)))) x9 x10 x11 x12 x13) S = (match o0 f (b0d w ls u r s q x6 (some (.val (oiD o))) (some (.val (.int (wt s)))) (some (.val (.int (i : Int)))) x10 x11 x12 x13) S with
   | .nx ρ2 S2 => Y3 (f8 9) (o0 f) (j8 ((i : Int) + 1) n) ρ2 S2
   | .ct ρ2 S2 => Y3 (f8 9) (o0 f) (j8 ((i : Int) + 1) n) ρ2 S2
   | .bk ρ2 S2 => .nx ρ2 S2
   | x => x) := fun _ => rfl
  rw [eb .bad, e1]
  by_cases h : ct (o9 ls) u + ct (o9 ls) (u + 1) < (w : Int) * (i : Int) - wt s
  ·rw [if_pos h]
   refine ⟨o1, K1, _, y10, y11, y12, y13, rfl, ho1.congr fun c => ?_, k1⟩
   rw [b5A hu]
   constructor
   ·rintro (⟨m, l, h1, h2, h3⟩ | ⟨l, h1, h2, h3, h4⟩)
    ·exact ⟨m, l, h1, by omega, h3⟩
    ·exact ⟨i, l, by omega, by omega, h1, h2, h3, h4⟩
   ·rintro ⟨m, l, h1, h2, h3, h4, h5, h6⟩
    by_cases z : m < (i : Int)
    ·exact .inl ⟨m, l, h1, z, h3, h4, h5, h6⟩
    ·exact .inr ⟨l, h3, h4, h5, b4Y (by omega) h (by omega) h3 h4 h6⟩
  ·rw [if_neg h]
   obtain ⟨o2, K2, z9, z10, z11, z12, z13, e2, ho2, k2⟩ := a4b hf hu hw1 hw hl hr (x6 := x6) n (i + 1) (S.set q (.dct true (kvT K1))) K1 o1 (some (.val (.int (i : Int)))) y10 y11 y12 y13 (by omega) (by rw [List.getElem?_set, if_pos rfl, if_pos hq]) k1 (ho1.congr fun c => by
    constructor
    ·rintro (⟨m, l, h1, h2, h3⟩ | ⟨l, h1, h2, h3, h4⟩)
     ·exact ⟨m, l, h1, by omega, h3⟩
     ·exact ⟨i, l, by omega, by omega, h1, h2, h3, h4⟩
    ·rintro ⟨m, l, h1, h2, h3, h4, h5, h6⟩
     by_cases z : m < (i : Int)
     ·exact .inl ⟨m, l, h1, z, h3, h4, h5, h6⟩
     ·have : m = (i : Int) := by omega
      subst this
      exact .inr ⟨l, h3, h4, h5, h6⟩)
   rw [set_set] at e2
   exact ⟨o2, K2, z9, z10, z11, z12, z13, e2, ho2, k2⟩
end
end BV
namespace BV
open PySem L2
section
variable {w : Nat} {ls : List (Str × Int)} {q : Nat} {u : Nat}
theorem a5e {S : Sto} {K : List (List Int × D)} (hS : S[q]? = some (.dct true (kvT K))) : S.set q (.dct true (kvT K)) = S := by
 refine List.ext_getElem? fun j => ?_
 rw [List.getElem?_set]
 split
 ·rename_i e
  subst e
  rw [hS, if_pos (List.getElem?_eq_some_iff.mp hS).1]
 ·rfl
theorem a0X (n : Nat) (hu : 30 < u) : FOk w ls q (b5M 14 m5 (n + 1)) u := by
 intro S r s K h0 h1 h2 h3 hS k
 have hm : IsMinP (Tl (w : Int) (o9 ls) u r s) (if 0 ≤ s then some 0 else none) := by
  split
  ·rename_i hs
   refine ⟨.stop hu hs, fun c t => ?_⟩
   cases t with
   | stop _ _ => exact Int.le_refl _
   | step h _ _ _ _ _ _ _ => omega
  ·rename_i hs
   intro c t
   cases t with
   | stop _ h => exact hs h
   | step h _ _ _ _ _ _ _ => omega
 refine ⟨_, K, ?_, hm, k⟩
 rw [a5e (q := q) hS, b5F]
 refine E1 ?_
 unfold m5
 have hu' : (30 : Int) < (u : Int) := by omega
 rw [b0h]
 have e1 : (sIf (cB (d5 gGt (b7 2) (cC (.int 30)))) (G9 (d5 gIx (t9 (d2 (cC .none) (d2 (cC (.int 0)) l8))) (cB1 a53 (i4 (d5 gGe (b7 4) (cC (.int 0))) w3)))) r7) (start0 14 [.val (.int (w : Int)), .val (a2g ls), .val (.int (u : Int)), .val (.int r), .val (.int s), .cel q]) S = .rt (.val (oiD (if 0 ≤ s then some 0 else none))) S := by
  refine b0n (S1 := S) (by generalize a2g ls = C; simp [hu']) ?_
  generalize a2g ls = C
  by_cases hs : 0 ≤ s
  ·have : gIx (.list [.none, .int 0]) (.int 1) = some (.val (.int 0)) := rfl
   simp [hs, oiD, this, -E9]
  ·have : gIx (.list [.none, .int 0]) (.int 0) = some (.val .none) := rfl
   simp [hs, oiD, this, -E9]
 rw [e1]
 rfl
theorem a6c {f : Fn} (hf : FOk w ls q f (u + 1)) (hu : u ≤ 30) (hw1 : 1 ≤ w) (hw : w ≤ 15) (hl : ls.length ≤ 60) : FOk w ls q (fnL 14 (m5 f)) u := by
 intro S r s K h0 h1 h2 h3 hS k
 have hq := (List.getElem?_eq_some_iff.mp hS).1
 have hu' : ¬ (30 : Int) < (u : Int) := by omega
 have kd : PyData.tuple [.int (u : Int), .int r, .int s] = .tuple ((a2H u r s).map PyData.int) := rfl
 have din : a0r (mkD true (kvT K)) (.tuple ((a2H u r s).map PyData.int)) = some (a8w K (a2H u r s)) := a3q K (a2H u r s)
 have p0 : ∀ {rest : SS} {Y : Fl}, rest [some (.val (.int (w : Int))), some (.val (a2g ls)), some (.val (.int (u : Int))), some (.val (.int r)), some (.val (.int s)), some (.cel q), some (.val (.tuple ((a2H u r s).map PyData.int))), none, none, none, none, none, none, none] S = Y →
   (k7 (sIf (cB (d5 gGt (b7 2) (cC (.int 30)))) (G9 (d5 gIx (t9 (d2 (cC .none) (d2 (cC (.int 0)) l8))) (cB1 a53 (i4 (d5 gGe (b7 4) (cC (.int 0))) w3)))) r7)
  (k7 (u8 6 (X0 (d2 (l7 2) (d2 (l7 3) (d2 (l7 4) l8))))) rest)) (start0 14 [.val (.int (w : Int)), .val (a2g ls), .val (.int (u : Int)), .val (.int r), .val (.int s), .cel q]) S = Y := fun {rest Y} hr => by
  refine b8 (ρ1 := [some (.val (.int (w : Int))), some (.val (a2g ls)), some (.val (.int (u : Int))), some (.val (.int r)), some (.val (.int s)), some (.cel q), none, none, none, none, none, none, none, none]) (S1 := S) (Z6 (S1 := S) (by generalize a2g ls = C; simp [hu']) (by generalize a2g ls = C; simp)) ?_
  refine b8 ?_ hr
  generalize a2g ls = C
  simp [kd]
 cases eg : a8w K (a2H u r s) with
 | some v =>
  obtain ⟨o, rfl, hm⟩ := k.val _ _ eg u r s rfl
  refine ⟨o, K, ?_, hm, k⟩
  rw [a5e (q := q) hS]
  rw [eg] at din
  refine E1 ?_
  unfold m5
  refine p0 ?_
  generalize PyData.tuple ((a2H u r s).map PyData.int) = KD at *
  have e1 : (sIf (cB (a5b false (b7 6) 5)) (G9 (a0O 5 (b7 6))) r7) [some (.val (.int (w : Int))), some (.val (a2g ls)), some (.val (.int (u : Int))), some (.val (.int r)), some (.val (.int s)), some (.cel q), some (.val KD), none, none, none, none, none, none, none] S = .rt (.val (oiD o)) S := by
   generalize a2g ls = C
   generalize kvT K = MK at *
   exact b0n (S1 := S) (by simp [hS, din]) (by simp [hS, din])
  rw [b0h, e1]
  rfl
 | none =>
  rw [eg] at din
  have sp := a8p s
  obtain ⟨o, K', z9, z10, z11, z12, z13, e, ho, k'⟩ := a4b hf hu hw1 hw hl (r := r) (s := s) h1 (x6 := some (.val (.tuple ((a2H u r s).map PyData.int)))) (r + 1).toNat 0 S K none none none none none none (by omega) hS k (fun c => by
   rintro ⟨m, l, h1, h2, h3⟩
   omega)
  have kl := k'.len
  have ds := a73 (l := K') (k := a2H u r s) (v := oiD o) (by rw [sizeLine_eq]; omega)
  have gr : N6 [.int (r + 1)] = some (j8 0 (r + 1).toNat) := by
   have := a0a (n := (r + 1).toNat) (y0 (by omega))
   rw [Int.toNat_of_nonneg (by omega)] at this
   exact this
  have hS' : (S.set q (.dct true (kvT K')))[q]? = some (.dct true (kvT K')) := by rw [List.getElem?_set, if_pos rfl, if_pos hq]
  refine ⟨o, a58 K' (a2H u r s) (oiD o), ?_, ho, k'.put ⟨hu, h0, h1, h2, h3⟩ ho⟩
  refine E1 ?_
  unfold m5
  refine p0 ?_
  unfold b0d at e
  rw [← set_set (q := q) (S := S) (a := .dct true (kvT K')) (b := .dct true (kvT (a58 K' (a2H u r s) (oiD o))))]
  generalize PyData.tuple ((a2H u r s).map PyData.int) = KD at *
  generalize kvT (a58 K' (a2H u r s) (oiD o)) = M2 at *
  generalize S.set q (.dct true (kvT K')) = S1 at *
  generalize kvT K' = M1 at *
  generalize kvT K = MK at *
  generalize a2g ls = C at *
  refine b8 (ρ1 := [some (.val (.int (w : Int))), some (.val C), some (.val (.int (u : Int))), some (.val (.int r)), some (.val (.int s)), some (.cel q), some (.val KD), none, none, none, none, none, none, none]) (S1 := S) (Z6 (S1 := S) (by simp [hS, din]) (by simp)) ?_
  refine b8 (ρ1 := [some (.val (.int (w : Int))), some (.val C), some (.val (.int (u : Int))), some (.val (.int r)), some (.val (.int s)), some (.cel q), some (.val KD), some (.val .none), none, none, none, none, none, none]) (S1 := S) (by simp) ?_
  have e8 : (if -s > 0 then -s else 0) = wt s := by unfold wt; split <;> split <;> omega
  refine b8 (ρ1 := [some (.val (.int (w : Int))), some (.val C), some (.val (.int (u : Int))), some (.val (.int r)), some (.val (.int s)), some (.cel q), some (.val KD), some (.val .none), some (.val (.int (wt s))), none, none, none, none, none]) (S1 := S) (by rw [← e8]; simp) ?_
  refine b8 (ρ1 := [some (.val (.int (w : Int))), some (.val C), some (.val (.int (u : Int))), some (.val (.int r)), some (.val (.int s)), some (.cel q), some (.val KD), some (.val (oiD o)), some (.val (.int (wt s))), z9, z10, z11, z12, z13]) (S1 := S1) (by rw [← e]; simp [gr]; rfl) ?_
  refine b8 (ρ1 := [some (.val (.int (w : Int))), some (.val C), some (.val (.int (u : Int))), some (.val (.int r)), some (.val (.int s)), some (.cel q), some (.val KD), some (.val (oiD o)), some (.val (.int (wt s))), z9, z10, z11, z12, z13]) (S1 := S1.set q (.dct true M2)) (by simp [hS', ds]) ?_
  simp
theorem a2b (hw1 : 1 ≤ w) (hw : w ≤ 15) (hl : ls.length ≤ 60) : ∀ (n : Nat) (u : Nat), 31 ≤ u + n → FOk w ls q (b5M 14 m5 (n + 1)) u
 | 0, u, h => a0X 0 (by omega)
 | n + 1, u, h => by
  by_cases hu : u ≤ 30
  ·rw [b5F]
   exact a6c (a2b hw1 hw hl n (u + 1) (by omega)) hu hw1 hw hl
  ·exact a0X (n + 1) (by omega)
end
end BV
namespace BV
open PySem L2
section
variable {S : Sto}
theorem b4M {ls : List (Str × Int)} {sd : D} (hl : ∀ p ∈ ls, 1 ≤ p.2 ∧ p.2 ≤ 30) :
  ∃ y3 y4, Y3 (a0e 2 (m3 (f8 3) (m3 (f8 4) a0l))) M4 (ls.map ltD) [some (.val sd), some (.val (.list (ls.map ltD))), some (.own ((List.range 33).map fun (u : Nat) => PyData.int ((0 : Nat) : Int))), none, none] S =
   .nx [some (.val sd), some (.val (.list (ls.map ltD))), some (.own ((List.range 33).map fun u => PyData.int (a3G ls u : Int))), y3, y4] S := by
 obtain ⟨ρ', e, y3, y4, rfl⟩ := Q5 (b := a0e 2 (m3 (f8 3) (m3 (f8 4) a0l))) (body := M4) (S := S) ltD (fun (g : Nat → Nat) (p : Str × Int) => fun u => if p.2 = (u : Int) then g u + 1 else g u)
  (fun g ρ => ∃ y3 y4, ρ = [some (.val sd), some (.val (.list (ls.map ltD))), some (.own ((List.range 33).map fun (u : Nat) => PyData.int ((g u : Nat) : Int))), y3, y4]) ls (fun _ => 0)
  [some (.val sd), some (.val (.list (ls.map ltD))), some (.own ((List.range 33).map fun (u : Nat) => PyData.int ((0 : Nat) : Int))), none, none] ⟨none, none, rfl⟩ (by
   rintro ⟨x, i⟩ hx g ρ ⟨y2, y3, rfl⟩
   obtain ⟨i1, i2⟩ := hl _ hx
   replace i1 : 1 ≤ i := i1
   replace i2 : i ≤ 30 := i2
   refine ⟨[some (.val sd), some (.val (.list (ls.map ltD))), some (.own ((List.range 33).map fun (u : Nat) => PyData.int ((g u : Nat) : Int))), some (.val (.str x)), some (.val (.int i))], rfl, _, ?_, some (.val (.str x)), some (.val (.int i)), rfl⟩
   have hi : i.toNat < 33 := by omega
   have ix : ixN ((List.range 33).map fun (u : Nat) => PyData.int ((g u : Nat) : Int)).length i = some i.toNat := by
    rw [List.length_map, List.length_range]
    exact U8 (by omega) (by omega)
   have at1 : ((List.range 33).map fun (u : Nat) => PyData.int ((g u : Nat) : Int))[i.toNat]? = some (.int ((g i.toNat : Nat) : Int)) := by
    rw [List.getElem?_map, List.getElem?_range hi]
    rfl
   have gx : gIx (.list ((List.range 33).map fun (u : Nat) => PyData.int ((g u : Nat) : Int))) (.int i) = some (.val (.int ((g i.toNat : Nat) : Int))) := by
    rw [E9, b8P (by omega) at1]
    rfl
   have st : ((List.range 33).map fun (u : Nat) => PyData.int ((g u : Nat) : Int)).set i.toNat (.int (((g i.toNat : Nat) : Int) + 1)) = (List.range 33).map fun (u : Nat) => PyData.int (((if i = (u : Int) then g u + 1 else g u : Nat) : Nat) : Int) := by
    refine List.ext_getElem? fun j => ?_
    rw [List.getElem?_set, List.length_map, List.length_range, List.getElem?_map, List.getElem?_map]
    by_cases hj : j < 33
    ·rw [List.getElem?_range hj]
     by_cases q : i.toNat = j
     ·rw [if_pos q, if_pos (by omega)]
      simp only [Option.map_some]
      rw [if_pos (by omega), q]
      rfl
     ·rw [if_neg q]
      simp only [Option.map_some]
      rw [if_neg (by omega)]
    ·rw [if_neg (by omega), List.getElem?_eq_none (by rw [List.length_range]; omega)]
     rfl
   unfold M4
   generalize (List.range 33).map (fun (u : Nat) => PyData.int (((if i = (u : Int) then g u + 1 else g u : Nat) : Nat) : Int)) = B at *
   generalize (List.range 33).map (fun (u : Nat) => PyData.int ((g u : Nat) : Int)) = A at *
   generalize ls.map ltD = LS at *
   simp [ix, gx, st, -E9])
 have key : ∀ (ls : List (Str × Int)) (g : Nat → Nat), ls.foldl (fun (g : Nat → Nat) (p : Str × Int) => fun (u : Nat) => if p.2 = (u : Int) then g u + 1 else g u) g = fun u => g u + a3G ls u := by
  intro ls
  induction ls with
  | nil => intro g; funext u; rfl
  | cons p ls ih =>
   intro g
   rw [List.foldl_cons, ih]
   funext u
   unfold a3G
   rw [List.countP_cons]
   by_cases q : p.2 = (u : Int)
   ·rw [if_pos q, if_pos (decide_eq_true q)]; omega
   ·rw [if_neg q, if_neg (by simpa using q)]
    omega
 rw [key] at e
 have e0 : ((List.range 33).map fun (u : Nat) => PyData.int ((0 + a3G ls u : Nat) : Int)) = (List.range 33).map fun u => PyData.int (a3G ls u : Int) := List.map_congr_left fun u _ => by simp
 rw [e0] at e
 exact ⟨y3, y4, e⟩
structure b8r (w h : Nat) (ls : List (Str × Int)) (o : Option Int) : Prop where
 full : w * h ≤ ls.length → o = none
 min : ls.length < w * h → IsMinP (Tl (w : Int) (o9 ls) 1 (h : Int) 0) o
theorem b0b {w h : Nat} {ls : List (Str × Int)} (hw1 : 1 ≤ w) (hw : w ≤ 15) (hh : h ≤ 15) (hl : ls.length ≤ 60) (hls : ∀ p ∈ ls, 1 ≤ p.2 ∧ p.2 ≤ 30) (hS : lfS S = true) :
  ∃ o S', A9 [.val (c7 ((w : Int), (h : Int))), .val (.list (ls.map ltD))] S = .ok (.val (oiD o)) S' ∧ b8r w h ls o ∧ lfS S' = true ∧ (∀ j, j < S.length → S'[j]? = S[j]?) := by
 have len := w7 (xs := ls.map ltD)
 rw [List.length_map] at len
 have mw : E2 (.int (w : Int)) (.int (h : Int)) = some (.val (.int ((w * h : Nat) : Int))) := by
  rw [Z8 (Q8 (by omega) (by omega)) (Q8 (by omega) (by omega)), Int.natCast_mul]
 have p0 : gIx (c7 ((w : Int), (h : Int))) (.int 0) = some (.val (.int (w : Int))) := rfl
 have p1 : gIx (c7 ((w : Int), (h : Int))) (.int 1) = some (.val (.int (h : Int))) := rfl
 by_cases hfull : w * h ≤ ls.length
 ·refine ⟨none, S, ?_, ⟨fun _ => rfl, fun h => by omega⟩, hS, fun _ _ => rfl⟩
  unfold A9
  refine E1 ?_
  unfold P8
  have hf' : (((w * h : Nat) : Int) ≤ (ls.length : Int)) := by omega
  have e1 : (sIf (cB (d5 gGe (cB1 X3 (i4 (b7 1) w3)) (d5 E2 (d5 gIx (b7 0) (cC (.int 0))) (d5 gIx (b7 0) (cC (.int 1)))))) (G9 (cC .none)) r7) (start0 5 [.val (c7 ((w : Int), (h : Int))), .val (.list (ls.map ltD))]) S = .rt (.val (oiD none)) S := by
   generalize ls.map ltD = LS at *
   generalize c7 ((w : Int), (h : Int)) = SD at *
   generalize w * h = WH at *
   exact b0n (S1 := S) (by simp [len, mw, p0, p1, hf', -w7]) (by simp [oiD])
  rw [b0h, e1]
  rfl
 ·obtain ⟨y3, y4, ec⟩ := b4M (S := S) (sd := c7 ((w : Int), (h : Int))) hls
  have fo := a2b (w := w) (ls := ls) (q := S.length) hw1 hw hl 32 1 (by omega)
  obtain ⟨o, K', ef, hm, kk⟩ := fo (S ++ [.dct true (kvT [])]) (h : Int) 0 [] (by omega) (by omega) (by omega) (by omega) (by rw [List.getElem?_append_right (Nat.le_refl _), Nat.sub_self]; rfl) KOk.nil
  have es : (S ++ [Ce.dct true (kvT [])]).set S.length (.dct true (kvT K')) = S ++ [.dct true (kvT K')] := by
   rw [List.set_append_right _ _ (Nat.le_refl _), Nat.sub_self]
   rfl
  rw [es] at ef
  have lfs' : lfS (S ++ [Ce.dct true (kvT K')]) = true := by
   unfold lfS at hS ⊢
   rw [List.all_append, hS]
   have : lfs ((kvT K').map (·.2)) = true := by
    have e : (kvT K').map (·.2) = K'.map (·.2) := by unfold kvT; rw [List.map_map]; rfl
    rw [e]
    have hlf := kk.lf
    generalize K'.map (·.2) = V at *
    clear e ef es hS kk hm fo
    induction V with
    | nil => rfl
    | cons x V ih => rw [a3o, hlf x (List.mem_cons_self ..), ih fun y hy => hlf y (List.mem_cons_of_mem _ hy)]; rfl
   simp [lfC, this]
  refine ⟨o, S ++ [.dct true (kvT K')], ?_, ⟨fun h => absurd h hfull, fun _ => hm⟩, lfs', fun j hj => List.getElem?_append_left hj⟩
  have hf' : ¬ (((w * h : Nat) : Int) ≤ (ls.length : Int)) := by omega
  have m0 : E2 (.list [.int 0]) (.int 33) = some (.own ((List.range 33).map fun (u : Nat) => PyData.int ((0 : Nat) : Int))) := by rfl
  have cd : PyData.list ((List.range 33).map fun u => PyData.int (a3G ls u : Int)) = a2g ls := rfl
  have kn : kvT [] = [] := rfl
  rw [kn] at ef
  have lo : lfT (.val (oiD o)) = true := by cases o <;> rfl
  unfold A9
  refine E1 ?_
  unfold P8
  rw [← cd] at ef
  generalize (List.range 33).map (fun u => PyData.int (a3G ls u : Int)) = C at *
  generalize (List.range 33).map (fun (u : Nat) => PyData.int ((0 : Nat) : Int)) = Z at *
  generalize ls.map ltD = LS at *
  generalize c7 ((w : Int), (h : Int)) = SD at *
  generalize w * h = WH at *
  generalize S ++ [Ce.dct true (kvT K')] = S2 at *
  refine b8 (ρ1 := [some (.val SD), some (.val (.list LS)), none, none, none]) (S1 := S) (Z6 (S1 := S) (by simp [len, mw, p0, p1, hf', -w7]) (by simp)) ?_
  refine b8 (ρ1 := [some (.val SD), some (.val (.list LS)), some (.own Z), none, none]) (S1 := S) (by simp [m0]) ?_
  refine b8 (ρ1 := [some (.val SD), some (.val (.list LS)), some (.own C), y3, y4]) (S1 := S) (by simp [ec]) ?_
  have ef' : D8 [.val (.int (w : Int)), .val (.list C), .val (.int 1), .val (.int (h : Int)), .val (.int 0), .cel S.length] (S ++ [.dct true []]) = .ok (.val (oiD o)) S2 := ef
  simp only [c2m, c06, c2h, b8Y]
  simp [p0, p1, ef', lo, lfs']
end
end BV
namespace BV
open PySem L2
def b98 (a b : List (Int ⊕ List Nat)) : Bool := !PyProof.Rows.lexLt PyProof.Rows.itemOrd b a
theorem c1c : b8g b98 where
 total a b := by
  have := (PySem.W.sortLe_total (PyProof.Rows.listOrd PyProof.Rows.itemOrd) false (fun x : List (Int ⊕ List Nat) => x)).total a b
  rcases this with h | h
  ·exact .inl h
  ·exact .inr h
 trans a b c h1 h2 := (PySem.W.sortLe_total (PyProof.Rows.listOrd PyProof.Rows.itemOrd) false (fun x : List (Int ⊕ List Nat) => x)).trans a b c h1 h2
 anti a b h1 h2 := (PyProof.Rows.listOrd PyProof.Rows.itemOrd).total a b (by unfold b98 at h2; simpa using h2) (by unfold b98 at h1; simpa using h1)
theorem a7A {α : Type} (u : α → D) (inj : ∀ a b, PySem.W.keyToks (u a) = PySem.W.keyToks (u b) → a = b) {A B : List α} (p : A.Perm B) : w6 (A.map u) = w6 (B.map u) := by
 have pa : (w6 (A.map u)).Perm (A.map u) := List.mergeSort_perm _ _
 have pb : (w6 (B.map u)).Perm (B.map u) := List.mergeSort_perm _ _
 have t := PySem.W.sortLe_total (PyProof.Rows.listOrd PyProof.Rows.itemOrd) false (fun b : D => PySem.W.keyToks (id b))
 have wa : (w6 (A.map u)).Pairwise (fun a b => PySem.W.dataLe false id a b = true) := PySem.W.sort_pairwise t _
 have wb : (w6 (B.map u)).Pairwise (fun a b => PySem.W.dataLe false id a b = true) := PySem.W.sort_pairwise t _
 have ka : ((w6 (A.map u)).map PySem.W.keyToks).Pairwise (fun a b => b98 a b = true) := List.pairwise_map.mpr (wa.imp fun h => h)
 have kb : ((w6 (B.map u)).map PySem.W.keyToks).Pairwise (fun a b => b98 a b = true) := List.pairwise_map.mpr (wb.imp fun h => h)
 have pk : ((w6 (A.map u)).map PySem.W.keyToks).Perm ((w6 (B.map u)).map PySem.W.keyToks) := ((pa.trans (p.map u)).trans pb.symm).map _
 have e := a7y c1c pk ka kb
 have ga : ∀ d ∈ w6 (A.map u), ∃ l, d = u l := fun d hd => by
  obtain ⟨l, _, rfl⟩ := List.mem_map.mp (pa.mem_iff.mp hd)
  exact ⟨l, rfl⟩
 have gb : ∀ d ∈ w6 (B.map u), ∃ l, d = u l := fun d hd => by
  obtain ⟨l, _, rfl⟩ := List.mem_map.mp (pb.mem_iff.mp hd)
  exact ⟨l, rfl⟩
 clear ka kb pk wa wb t pa pb
 generalize w6 (A.map u) = X at *
 generalize w6 (B.map u) = Y at *
 induction X generalizing Y with
 | nil =>
  cases Y with
  | nil => rfl
  | cons y Y => simp at e
 | cons x X ih =>
  cases Y with
  | nil => simp at e
  | cons y Y =>
   rw [List.map_cons, List.map_cons, List.cons.injEq] at e
   obtain ⟨l, rfl⟩ := ga x (List.mem_cons_self ..)
   obtain ⟨m, rfl⟩ := gb y (List.mem_cons_self ..)
   rw [inj _ _ e.1, ih (fun d hd => ga d (List.mem_cons_of_mem _ hd)) Y (fun d hd => gb d (List.mem_cons_of_mem _ hd)) e.2]
theorem b3r {α : Type} (u : α → D) (h1 : ∀ a b, PySem.W.alike (u a) (u b) = true) (h2 : ∀ a, a7a (u a) = true) (h3 : ∀ a, (u a).depth ≤ 20) (h4 : ∀ a, A0 (u a) = true) {A : List α} (hl : A.length ≤ 10000) : a0A [.list (A.map u)] = some (.own (w6 (A.map u))) := by
 have ok : U4 (A.map u) = true := by
  unfold U4
  simp only [Bool.and_eq_true, List.all_eq_true, decide_eq_true_eq, List.mem_map, forall_exists_index, and_imp, forall_apply_eq_imp_iff₂]
  exact ⟨⟨⟨⟨fun a _ b _ => h1 a b, fun a _ => h2 a⟩, fun a _ => h3 a⟩, fun a _ => h4 a⟩, by rw [List.length_map]; exact hl⟩
 show (if U4 (A.map u) = true then some (T.own (w6 (A.map u))) else none) = _
 rw [if_pos ok]
theorem b9x (a b : Str × Int) (h : PySem.W.keyToks (ltD a) = PySem.W.keyToks (ltD b)) : a = b := by
 obtain ⟨x, i⟩ := a
 obtain ⟨y, j⟩ := b
 have h' : ([.inl 1, .inr x.cps.toList, .inl 1, .inl i, .inl 0] : List (Int ⊕ List Nat)) = [.inl 1, .inr y.cps.toList, .inl 1, .inl j, .inl 0] := h
 simp only [List.cons.injEq, Sum.inl.injEq, Sum.inr.injEq, true_and, and_true] at h'
 rw [h'.2, show x = y from b7b h'.1]
theorem b19 {A : List (Str × Int)} (hl : A.length ≤ 10000) : a0A [.list (A.map ltD)] = some (.own (w6 (A.map ltD))) := b3r ltD (fun _ _ => rfl) (fun _ => rfl) (fun _ => by simp [ltD, PyData.depth, PyData.depthAll]) (fun _ => rfl) hl
end BV
namespace BV
open PySem L2
def ucD (a : UC) : D := .tuple [.int a.1, .str a.2.1, .int a.2.2]
section
variable {S : Sto}
theorem a5a {i : Int} : o7 [.val (.int i)] S = .ok (.val (.bool true)) S := by
 unfold o7
 refine E1 ?_
 unfold T1
 simp
theorem b05 {w h : Nat} {rows : List (List e9)} (hr : rows.length = h) (hw : ∀ r ∈ rows, r.length = w) : v5 [.val (.tuple (rows.map E7)), .val (c7 ((w : Int), (h : Int)))] S = .ok (.val (.bool true)) S := by
 have lr : X3 [.tuple (rows.map E7)] = some (.val (.int (h : Int))) := by rw [a1e, List.length_map, hr]
 have p0 : gIx (c7 ((w : Int), (h : Int))) (.int 0) = some (.val (.int (w : Int))) := rfl
 have p1 : gIx (c7 ((w : Int), (h : Int))) (.int 1) = some (.val (.int (h : Int))) := rfl
 have lc : lcM (f8 2) a2o (b1r (cUn (G5 "tuple") (b7 2)) (d5 (gEq false) (cB1 X3 (i4 (b7 2) w3)) (d5 gIx (b7 1) (cC (.int 0))))) [some (.val (.tuple (rows.map E7))), some (.val (c7 ((w : Int), (h : Int)))), none] (rows.map E7) S = .ok (rows.map fun _ => PyData.bool true) S := by
  have := W4 (S := S) (b := f8 2) (tt := a2o) (elt := b1r (cUn (G5 "tuple") (b7 2)) (d5 (gEq false) (cB1 X3 (i4 (b7 2) w3)) (d5 gIx (b7 1) (cC (.int 0))))) (ρ := [some (.val (.tuple (rows.map E7))), some (.val (c7 ((w : Int), (h : Int)))), none]) E7 (fun _ => true) (fun _ => PyData.bool true) rows fun r hr => by
   have ln : X3 [E7 r] = some (.val (.int (w : Int))) := by unfold E7; rw [a1e, List.length_map, hw r hr]
   refine ⟨_, .val (.bool true), rfl, rfl, ?_, rfl⟩
   have it : G5 "tuple" (E7 r) = some (.val (.bool true)) := a0c
   generalize rows.map E7 = RD at *
   generalize c7 ((w : Int), (h : Int)) = SD at *
   generalize E7 r = R at *
   simp [it, ln, p0]
  rw [this, List.filter_eq_self.mpr (fun _ _ => rfl)]
 have al : b5x [.list (rows.map fun _ => PyData.bool true)] = some (.val (.bool true)) := by
  have := b2j (p := fun _ : List e9 => true) (xs := rows)
  rw [this]
  simp
 unfold v5
 refine E1 ?_
 unfold M5
 generalize (rows.map fun _ => PyData.bool true) = BB at *
 generalize rows.map E7 = RD at *
 generalize c7 ((w : Int), (h : Int)) = SD at *
 refine b8 (ρ1 := [some (.val (.tuple RD)), some (.val SD), none]) (S1 := S) (Z6 (S1 := S) (by simp [lr, p1, -a1e]) (by simp)) ?_
 simp [t6, lc, al]
def a8c (cd sd : D) (F : List UC) (x3 x4 x5 : Option T) : En := [some (.val cd), some (.val sd), some (.own (F.map ucD)), x3, x4, x5]
theorem b21 {cd sd : D} {F : List UC} {u : Int} {x4 : Option T} {c : e9} (hF : F.length ≤ 90000) (hc : ∀ p, c = some p → -1 ≤ p.2 ∧ p.2 ≤ 1) :
  n6 (a8c cd sd F (some (.val (.int u))) x4 (some (.val (p7 c)))) S = .nx (a8c cd sd (F ++ K4 u [c]) (some (.val (.int u))) x4 (some (.val (p7 c)))) S := by
 unfold n6
 cases c with
 | none =>
  have e : F ++ K4 u [none] = F := by unfold K4; simp
  rw [e]
  unfold a8c
  generalize F.map ucD = FD
  exact Z6 (S1 := S) (by simp [p7]) (by simp)
 | some p =>
  obtain ⟨x, i⟩ := p
  obtain ⟨h1, h2⟩ := hc _ rfl
  replace h1 : -1 ≤ i := h1
  replace h2 : i ≤ 1 := h2
  have e : F ++ K4 u [some (x, i)] = F ++ [(u, x, i)] := by unfold K4; simp
  rw [e]
  have ap : w5 (F.map ucD) [.tuple [.int u, .str x, .int i]] = some ((F ++ [(u, x, i)]).map ucD, .none) := Y0 ucD (x := (u, x, i)) (by omega)
  have ec : p7 (some (x, i)) = .tuple [.str x, .int i] := rfl
  have wi := a5a (S := S) (i := i)
  rw [ec]
  unfold a8c
  have c0 : gIx (.tuple [.str x, .int i]) (.int 0) = some (.val (.str x)) := rfl
  have c1 : gIx (.tuple [.str x, .int i]) (.int 1) = some (.val (.int i)) := rfl
  generalize (F ++ [(u, x, i)]).map ucD = F2 at *
  generalize F.map ucD = FD at *
  refine b0n (S1 := S) (by simp) ?_
  refine b8 (ρ1 := [some (.val cd), some (.val sd), some (.own FD), some (.val (.int u)), x4, some (.val (.tuple [.str x, .int i]))]) (S1 := S) (Z6 (S1 := S) (by simp [c0, -b2N]) (by simp)) ?_
  refine b8 (ρ1 := [some (.val cd), some (.val sd), some (.own FD), some (.val (.int u)), x4, some (.val (.tuple [.str x, .int i]))]) (S1 := S) (Z6 (S1 := S) (by simp [c1, wi, h1, h2, -b2N]) (by simp)) ?_
  simp [c0, c1, ap, -b2N]
theorem a36 {cd sd : D} {u : Int} {x4 : Option T} : ∀ (r : List e9) (F : List UC) (x5 : Option T), F.length + r.length ≤ 90000 → (∀ p, some p ∈ r → -1 ≤ p.2 ∧ p.2 ≤ 1) →
  ∃ y5, Y3 (f8 5) n6 (r.map p7) (a8c cd sd F (some (.val (.int u))) x4 x5) S = .nx (a8c cd sd (F ++ K4 u r) (some (.val (.int u))) x4 y5) S
 | [], F, x5, _, _ => ⟨x5, by unfold K4; simp [Y3]⟩
 | c :: r, F, x5, hF, hc => by
  rw [List.length_cons] at hF
  have e1 := b21 (S := S) (cd := cd) (sd := sd) (F := F) (u := u) (x4 := x4) (c := c) (by omega) (fun p hp => hc p (hp ▸ List.mem_cons_self ..))
  have l1 : (K4 u [c]).length ≤ 1 := by unfold K4; exact Nat.le_trans (List.length_filterMap_le _ _) (by simp)
  obtain ⟨y5, e2⟩ := a36 r (F ++ K4 u [c]) (some (.val (p7 c))) (by rw [List.length_append]; omega) (fun p hp => hc p (List.mem_cons_of_mem _ hp))
  refine ⟨y5, ?_⟩
  have e3 : F ++ K4 u (c :: r) = F ++ K4 u [c] ++ K4 u r := by rw [List.append_assoc, ← a9x]; rfl
  rw [e3, ← e2, List.map_cons]
  show (match n6 (a8c cd sd F (some (.val (.int u))) x4 (some (.val (p7 c)))) S with
   | .nx ρ2 S2 => Y3 (f8 5) n6 (r.map p7) ρ2 S2
   | .ct ρ2 S2 => Y3 (f8 5) n6 (r.map p7) ρ2 S2
   | .bk ρ2 S2 => .nx ρ2 S2
   | x => x) = _
  rw [e1]
theorem a1X {cd sd : D} : ∀ (us : List Int) (rs : List (List e9)) (F : List UC) (x3 x4 x5 : Option T), us.length = rs.length → F.length + (rs.map List.length).sum ≤ 90000 → (∀ r ∈ rs, ∀ p, some p ∈ r → -1 ≤ p.2 ∧ p.2 ≤ 1) →
  ∃ y3 y4 y5, Y3 (a0e 2 (m3 (f8 3) (m3 (f8 4) a0l))) n7 ((us.zip rs).map fun (q : Int × List e9) => PyData.tuple [.int q.1, E7 q.2]) (a8c cd sd F x3 x4 x5) S = .nx (a8c cd sd (F ++ i9 us rs) y3 y4 y5) S
 | [], [], F, x3, x4, x5, _, _, _ => ⟨x3, x4, x5, by simp [i9, Y3]⟩
 | [], _ :: _, _, _, _, _, h, _, _ => by simp at h
 | _ :: _, [], _, _, _, _, h, _, _ => by simp at h
 | u :: us, r :: rs, F, x3, x4, x5, hl, hF, hc => by
  rw [List.map_cons, List.sum_cons] at hF
  obtain ⟨z5, e1⟩ := a36 (S := S) (cd := cd) (sd := sd) (u := u) (x4 := some (.val (E7 r))) r F x5 (by omega) (hc r (List.mem_cons_self ..))
  have l1 : (K4 u r).length ≤ r.length := by unfold K4; exact List.length_filterMap_le _ _
  obtain ⟨y3, y4, y5, e2⟩ := a1X us rs (F ++ K4 u r) (some (.val (.int u))) (some (.val (E7 r))) z5 (by simpa using hl) (by rw [List.length_append]; omega) (fun q hq => hc q (List.mem_cons_of_mem _ hq))
  refine ⟨y3, y4, y5, ?_⟩
  rw [s8, ← List.append_assoc, ← e2, List.zip_cons_cons, List.map_cons]
  have e3 : n7 (a8c cd sd F (some (.val (.int u))) (some (.val (E7 r))) x5) S = .nx (a8c cd sd (F ++ K4 u r) (some (.val (.int u))) (some (.val (E7 r))) z5) S := by
   rw [← e1]
   unfold n7
   rw [c1f]
   have : (a07 (l7 4)) (a8c cd sd F (some (.val (.int u))) (some (.val (E7 r))) x5) S = .ok (r.map p7) S := rfl
   rw [this]
  show (match n7 (a8c cd sd F (some (.val (.int u))) (some (.val (E7 r))) x5) S with
   | .nx ρ2 S2 => Y3 _ n7 ((us.zip rs).map fun (q : Int × List e9) => PyData.tuple [.int q.1, E7 q.2]) ρ2 S2
   | .ct ρ2 S2 => Y3 _ n7 ((us.zip rs).map fun (q : Int × List e9) => PyData.tuple [.int q.1, E7 q.2]) ρ2 S2
   | .bk ρ2 S2 => .nx ρ2 S2
   | x => x) = _
  rw [e3]
theorem b48 : ∀ (us : List Int) (rs : List (List e9)), a3E (us.map PyData.int) (rs.map E7) = (us.zip rs).map fun (q : Int × List e9) => PyData.tuple [.int q.1, E7 q.2]
 | [], _ => by simp [a3E]
 | _ :: _, [] => by simp [a3E]
 | u :: us, r :: rs => by
  rw [List.zip_cons_cons]
  show PyData.tuple [.int u, E7 r] :: a3E (us.map PyData.int) (rs.map E7) = _
  rw [b48 us rs]
  rfl
theorem a3T {w h : Nat} {units : List Int} {rows : List (List e9)} (hw15 : w ≤ 15) (hh15 : h ≤ 15) (hu : units.length = h) (hr : rows.length = h) (hw : ∀ r ∈ rows, r.length = w) (un : ∀ u ∈ units, 1 ≤ u ∧ u ≤ 30) (hc : ∀ r ∈ rows, ∀ p, some p ∈ r → -1 ≤ p.2 ∧ p.2 ≤ 1) :
  t7 [.val (v4 units rows), .val (c7 ((w : Int), (h : Int)))] S = .ok (.own ((i9 units rows).map ucD)) S := by
 have c0 : gIx (v4 units rows) (.int 0) = some (.val (.tuple (units.map PyData.int))) := rfl
 have c1 : gIx (v4 units rows) (.int 1) = some (.val (.tuple (rows.map E7))) := rfl
 have lc : X3 [v4 units rows] = some (.val (.int 2)) := rfl
 have it : G5 "tuple" (v4 units rows) = some (.val (.bool true)) := a0c
 have lu : X3 [.tuple (units.map PyData.int)] = some (.val (.int (h : Int))) := by rw [a1e, List.length_map, hu]
 have p1 : gIx (c7 ((w : Int), (h : Int))) (.int 1) = some (.val (.int (h : Int))) := rfl
 have lcu : lcM (f8 3) a2o (b1r (p6 o7 (d2 (l7 3) l8)) (Z9 gLe gLe (cC (.int 1)) (b7 3) (cC (.int 30)))) [some (.val (v4 units rows)), some (.val (c7 ((w : Int), (h : Int)))), none, none, none, none] (units.map PyData.int) S = .ok (units.map fun u => PyData.bool (decide (1 ≤ u) && decide (u ≤ 30))) S := by
  have := W4 (S := S) (b := f8 3) (tt := a2o) (elt := b1r (p6 o7 (d2 (l7 3) l8)) (Z9 gLe gLe (cC (.int 1)) (b7 3) (cC (.int 30)))) (ρ := [some (.val (v4 units rows)), some (.val (c7 ((w : Int), (h : Int)))), none, none, none, none]) PyData.int (fun _ => true) (fun u => PyData.bool (decide (1 ≤ u) && decide (u ≤ 30))) units fun u _ => by
   have wi := a5a (S := S) (i := u)
   refine ⟨_, .val (.bool (decide (1 ≤ u) && decide (u ≤ 30))), rfl, rfl, ?_, rfl⟩
   generalize v4 units rows = CD
   generalize c7 ((w : Int), (h : Int)) = SD
   by_cases h1 : 1 ≤ u
   ·simp [wi, h1]
   ·simp [wi, h1]
  rw [this, List.filter_eq_self.mpr (fun _ _ => rfl)]
 have al : b5x [.list (units.map fun u => PyData.bool (decide (1 ≤ u) && decide (u ≤ 30)))] = some (.val (.bool true)) := by
  rw [b2j]
  congr 3
  rw [List.all_eq_true]
  intro u hu
  obtain ⟨h1, h2⟩ := un u hu
  simp [h1, h2]
 have ir := b05 (S := S) hr hw
 have sum : ∀ (rs : List (List e9)), (∀ r ∈ rs, r.length = w) → (rs.map List.length).sum ≤ rs.length * 15 := by
  intro rs
  induction rs with
  | nil => intro _; exact Nat.zero_le _
  | cons r rs ih =>
   intro h
   have := ih fun q hq => h q (List.mem_cons_of_mem _ hq)
   have := h r (List.mem_cons_self ..)
   rw [List.map_cons, List.sum_cons, List.length_cons]
   omega
 obtain ⟨y3, y4, y5, e⟩ := a1X (S := S) (cd := v4 units rows) (sd := c7 ((w : Int), (h : Int))) units rows [] none none none (by rw [hu, hr]) (by have := sum rows hw; rw [List.length_nil]; omega) hc
 rw [List.nil_append, ← b48] at e
 unfold t7
 refine E1 ?_
 unfold I5
 unfold a8c at e
 rw [List.map_nil] at e
 generalize (units.map fun u => PyData.bool (decide (1 ≤ u) && decide (u ≤ 30))) = BB at *
 generalize (i9 units rows).map ucD = CU at *
 generalize units.map PyData.int = UD at *
 generalize rows.map E7 = RD at *
 generalize v4 units rows = CD at *
 generalize c7 ((w : Int), (h : Int)) = SD at *
 refine b8 (ρ1 := [some (.val CD), some (.val SD), none, none, none, none]) (S1 := S) (Z6 (S1 := S) (by simp [it, lc, c0, lu, p1, -a1e, -w7]) (by simp)) ?_
 refine b8 (ρ1 := [some (.val CD), some (.val SD), none, none, none, none]) (S1 := S) (Z6 (S1 := S) (by simp [c0, c1, t6, lcu, al, ir]) (by simp)) ?_
 refine b8 (ρ1 := [some (.val CD), some (.val SD), some (.own []), none, none, none]) (S1 := S) (by simp) ?_
 refine b8 (ρ1 := [some (.val CD), some (.val SD), some (.own CU), y3, y4, y5]) (S1 := S) (by simp [c0, c1, e]) ?_
 simp
end
end BV
namespace BV
open PySem L2
theorem b3X {α : Type} {a : α} {l : List α} (p : l.Perm [a]) : l = [a] := List.perm_singleton.mp p
section
variable {S : Sto} {w h : Nat} {ls : List (Str × Int)} {c : Int} {units : List Int} {rows : List (List e9)}
theorem a9R {us : List Int} {rs : List (List e9)} (hl : us.length = rs.length) : ∀ r ∈ rs, ∀ p, some p ∈ r → ∃ u, (u, p.1, p.2) ∈ i9 us rs := by
 induction rs generalizing us with
 | nil => intro r hr; exact nomatch hr
 | cons r rs ih =>
  intro q hq p hp
  cases us with
  | nil => simp at hl
  | cons u us =>
   rw [s8]
   rcases List.mem_cons.mp hq with e | hq
   ·subst e
    refine ⟨u, List.mem_append.mpr (.inl ?_)⟩
    unfold K4
    exact List.mem_filterMap.mpr ⟨some p, hp, rfl⟩
   ·obtain ⟨u', hu'⟩ := ih (us := us) (by simpa using hl) q hq p hp
    exact ⟨u', List.mem_append.mpr (.inr hu')⟩
theorem Laid.cam_ok (k : Laid w h ls c units rows) : ∀ r ∈ rows, ∀ p, some p ∈ r → -1 ≤ p.2 ∧ p.2 ≤ 1 := by
 intro r hr p hp
 obtain ⟨u, hu⟩ := a9R (by rw [k.hu, k.hr]) r hr p hp
 obtain ⟨u0, A, p1, p2, p3, p4⟩ := k.cells
 rcases List.mem_cons.mp (p1.mem_iff.mp hu) with e | e
 ·injection e with _ e
  injection e with _ e
  rw [e]; omega
 ·have := p3 _ e
  replace this : p.2 = 0 ∨ p.2 = 1 ∨ p.2 = -1 := this
  omega
theorem a49 (k : Laid w h ls c units rows) (hw15 : w ≤ 15) (hh15 : h ≤ 15) (hl : ls.length ≤ 60) (hn : ∀ p ∈ ls, p.1 ≠ blank) :
  r9 [.val (v4 units rows), .val (c7 ((w : Int), (h : Int))), .val (.list (ls.map ltD)), .val (.int c)] S = .ok (.val (.bool true)) S := by
 have cs := a3T (S := S) hw15 hh15 k.hu k.hr k.hw k.un k.cam_ok
 obtain ⟨u0, A, p1, p2, p3, p4⟩ := k.cells
 have An : ∀ a ∈ A, a.2.1 ≠ blank := fun a ha => by
  have : lw a ∈ ls := p2.mem_iff.mp (List.mem_map.mpr ⟨a, ha, rfl⟩)
  exact hn (lw a) this
 have lenC : (i9 units rows).length ≤ 61 := by
  rw [p1.length_eq, List.length_cons]
  have := p2.length_eq
  rw [List.length_map] at this
  omega
 -- the blank
 have f1 : (i9 units rows).filter (fun a => decide (a.2.1 = blank)) = [(u0, blank, 0)] := by
  apply b3X
  refine (p1.filter _).trans ?_
  rw [List.filter_cons_of_pos (by simp), List.filter_eq_nil_iff.mpr (fun a ha => by simpa using An a ha)]
 have f2 : (((i9 units rows).filter (fun a => decide (a.2.1 ≠ blank))).map lw).Perm ls := by
  refine ((p1.filter _).map lw).trans ?_
  rw [List.filter_cons_of_neg (by simp), List.filter_eq_self.mpr (fun a ha => by simpa using An a ha)]
  exact p2
 have f3 : (((i9 units rows).filter nzB).length : Int) = c := by
  rw [← List.countP_eq_length_filter, p1.countP_eq, List.countP_cons_of_neg (by simp [nzB])]
  exact p4
 have l1 : lcM (f8 6) (cB (d5 (gEq false) (d5 gIx (b7 6) (cC (.int 1))) (cC (.str " ")))) (d5 gIx (b7 6) (cC (.int 2))) [some (.val (v4 units rows)), some (.val (c7 ((w : Int), (h : Int)))), some (.val (.list (ls.map ltD))), some (.val (.int c)), some (.own ((i9 units rows).map ucD)), none, none, none, none, none] ((i9 units rows).map ucD) S = .ok [.int 0] S := by
  have := W4 (S := S) (b := f8 6) (tt := cB (d5 (gEq false) (d5 gIx (b7 6) (cC (.int 1))) (cC (.str " ")))) (elt := d5 gIx (b7 6) (cC (.int 2))) (ρ := [some (.val (v4 units rows)), some (.val (c7 ((w : Int), (h : Int)))), some (.val (.list (ls.map ltD))), some (.val (.int c)), some (.own ((i9 units rows).map ucD)), none, none, none, none, none]) ucD (fun a => decide (a.2.1 = blank)) (fun a => PyData.int a.2.2) (i9 units rows) fun a _ => by
   have g1 : gIx (ucD a) (.int 1) = some (.val (.str a.2.1)) := rfl
   have g2 : gIx (ucD a) (.int 2) = some (.val (.int a.2.2)) := rfl
   refine ⟨_, .val (.int a.2.2), rfl, ?_, ?_, rfl⟩
   ·generalize (i9 units rows).map ucD = CU
    generalize v4 units rows = CD
    generalize ucD a = UD at *
    have gq : gEq false (.str a.2.1) (.str " ") = some (.val (.bool (decide (a.2.1 = blank)))) := by rw [b41]; congr
    simp [g1, gq, -b41]
   ·generalize (i9 units rows).map ucD = CU
    generalize v4 units rows = CD
    generalize ucD a = UD at *
    simp [g2]
  rw [this, f1]
  rfl
 have l2 : lcM (a0e 3 (m3 (f8 7) (m3 (f8 8) (m3 (f8 9) a0l)))) (cB (d5 (gEq true) (b7 8) (cC (.str " ")))) (X0 (d2 (l7 8) (d2 (d5 w9 (b7 7) (b7 9)) l8))) [some (.val (v4 units rows)), some (.val (c7 ((w : Int), (h : Int)))), some (.val (.list (ls.map ltD))), some (.val (.int c)), some (.own ((i9 units rows).map ucD)), none, none, none, none, none] ((i9 units rows).map ucD) S = .ok ((((i9 units rows).filter (fun a => decide (a.2.1 ≠ blank))).map lw).map ltD) S := by
  have := W4 (S := S) (b := a0e 3 (m3 (f8 7) (m3 (f8 8) (m3 (f8 9) a0l)))) (tt := cB (d5 (gEq true) (b7 8) (cC (.str " ")))) (elt := X0 (d2 (l7 8) (d2 (d5 w9 (b7 7) (b7 9)) l8))) (ρ := [some (.val (v4 units rows)), some (.val (c7 ((w : Int), (h : Int)))), some (.val (.list (ls.map ltD))), some (.val (.int c)), some (.own ((i9 units rows).map ucD)), none, none, none, none, none]) ucD (fun a => decide (a.2.1 ≠ blank)) (fun a => ltD (lw a)) (i9 units rows) fun a _ => by
   refine ⟨_, .val (ltD (lw a)), rfl, ?_, ?_, rfl⟩
   ·generalize (i9 units rows).map ucD = CU
    generalize v4 units rows = CD
    have gq : gEq true (.str a.2.1) (.str " ") = some (.val (.bool (decide (a.2.1 ≠ blank)))) := by rw [b5G]; congr
    simp [gq, -b5G]
   ·generalize (i9 units rows).map ucD = CU
    generalize v4 units rows = CD
    simp [ltD, lw]
  rw [this, List.map_map]
  rfl
 have l3 : lcM (f8 6) (cB (d5 (gEq true) (d5 gIx (b7 6) (cC (.int 2))) (cC (.int 0)))) (l7 6) [some (.val (v4 units rows)), some (.val (c7 ((w : Int), (h : Int)))), some (.val (.list (ls.map ltD))), some (.val (.int c)), some (.own ((i9 units rows).map ucD)), some (.own (w6 (ls.map ltD))), none, none, none, none] ((i9 units rows).map ucD) S = .ok (((i9 units rows).filter nzB).map ucD) S := by
  have := W4 (S := S) (b := f8 6) (tt := cB (d5 (gEq true) (d5 gIx (b7 6) (cC (.int 2))) (cC (.int 0)))) (elt := l7 6) (ρ := [some (.val (v4 units rows)), some (.val (c7 ((w : Int), (h : Int)))), some (.val (.list (ls.map ltD))), some (.val (.int c)), some (.own ((i9 units rows).map ucD)), some (.own (w6 (ls.map ltD))), none, none, none, none]) ucD nzB ucD (i9 units rows) fun a _ => by
   have g2 : gIx (ucD a) (.int 2) = some (.val (.int a.2.2)) := rfl
   refine ⟨_, .val (ucD a), rfl, ?_, rfl, rfl⟩
   generalize w6 (ls.map ltD) = SG
   generalize (i9 units rows).map ucD = CU
   generalize v4 units rows = CD
   generalize ucD a = UD at *
   simp [g2, nzB]
  exact this
 have so1 : a0A [.list ((((i9 units rows).filter (fun a => decide (a.2.1 ≠ blank))).map lw).map ltD)] = some (.own (w6 (ls.map ltD))) := by
  rw [b19 (by rw [List.length_map]; exact Nat.le_trans (List.length_filter_le _ _) (by omega)), a7A ltD b9x f2]
 have so2 := b19 (A := ls) (by omega)
 have eqS : gEq false (.list (w6 (ls.map ltD))) (.list (w6 (ls.map ltD))) = some (.val (.bool true)) := by
  have pm : (w6 (ls.map ltD)).Perm (ls.map ltD) := List.mergeSort_perm _ _
  obtain ⟨ms, hms⟩ : ∃ ms : List (Str × Int), w6 (ls.map ltD) = ms.map ltD := by
   have : ∀ d ∈ w6 (ls.map ltD), ∃ p, ltD p = d := fun d hd => by
    obtain ⟨p, _, e⟩ := List.mem_map.mp (pm.mem_iff.mp hd)
    exact ⟨p, e⟩
   clear pm so1 so2 l3
   generalize w6 (ls.map ltD) = X at *
   induction X with
   | nil => exact ⟨[], rfl⟩
   | cons d X ih =>
    obtain ⟨p, hp⟩ := this d (List.mem_cons_self ..)
    obtain ⟨ms, hms⟩ := ih fun e he => this e (List.mem_cons_of_mem _ he)
    exact ⟨p :: ms, by rw [List.map_cons, hp, hms]⟩
  rw [hms]
  have eo := (a0n ltD (fun _ => rfl) (fun _ => by simp [ltD, PyData.depth, PyData.depthAll]) ms).1
  rw [c1a eo eo]
  congr 3
  rw [if_neg (by simp)]
  rw [b8W]
  clear hms eo
  induction ms with
  | nil => rfl
  | cons p ms ih => rw [List.map_cons, a1j, ih]; simp [ltD]
 have ln : X3 [.list (((i9 units rows).filter nzB).map ucD)] = some (.val (.int c)) := by rw [w7, List.length_map, f3]
 unfold r9
 refine E1 ?_
 unfold Y2
 generalize w6 (ls.map ltD) = SG at *
 generalize ((i9 units rows).filter nzB).map ucD = NZ at *
 generalize (((i9 units rows).filter (fun a => decide (a.2.1 ≠ blank))).map lw).map ltD = TD at *
 generalize (i9 units rows).map ucD = CU at *
 generalize v4 units rows = CD at *
 generalize c7 ((w : Int), (h : Int)) = SD at *
 generalize ls.map ltD = LS at *
 refine b8 (ρ1 := [some (.val CD), some (.val SD), some (.val (.list LS)), some (.val (.int c)), some (.own CU), none, none, none, none, none]) (S1 := S) (by simp [cs]) ?_
 refine b8 (ρ1 := [some (.val CD), some (.val SD), some (.val (.list LS)), some (.val (.int c)), some (.own CU), none, none, none, none, none]) (S1 := S) (Z6 (S1 := S) (by
  have e1 : gEq true (.list [.int 0]) (.list [.int 0]) = some (.val (.bool false)) := rfl
  simp [t6, l1, e1]) (by simp)) ?_
 refine b8 (ρ1 := [some (.val CD), some (.val SD), some (.val (.list LS)), some (.val (.int c)), some (.own CU), some (.own SG), none, none, none, none]) (S1 := S) (by simp [t6, l2, so1]) ?_
 simp [so2, eqS, t6, l3, ln, -w7]
end
end BV
namespace BV
open PySem L2
def LetS (x : Str) : Prop := x.length ≤ 3 ∧ 1 ≤ x.length ∧ ∀ c ∈ x.cps.toList, 97 ≤ c ∧ c ≤ 122
theorem LetS.nb {x : Str} (h : LetS x) : x ≠ blank := by
 intro e
 subst e
 have := h.2.2 32 (by decide +kernel)
 omega
theorem b2e {j : Int} (h0 : 0 ≤ j) (h1 : j < 26) : ∃ x : Str, gIx (.str abc) (.int j) = some (.val (.str x)) ∧ x.length = 1 ∧ ∀ c ∈ x.cps.toList, 97 ≤ c ∧ c ≤ 122 := by
 have hl : abc.cps.toList.length = 26 := by decide +kernel
 obtain ⟨v, e1, e2⟩ := b2d (xs := abc.cps.toList) h0 (by rw [hl]; exact h1)
 refine ⟨⟨#[v]⟩, by rw [a17, e1]; rfl, rfl, fun c hc => ?_⟩
 have : c = v := by simpa using hc
 subst this
 exact b62 c (List.mem_of_getElem? e2)
theorem LetS.one {x : Str} (h : x.length = 1) (hc : ∀ c ∈ x.cps.toList, 97 ≤ c ∧ c ≤ 122) : LetS x := ⟨by omega, by omega, hc⟩
theorem a5Y {x y : Str} {a b : Nat} (hx : x.length = a ∧ ∀ c ∈ x.cps.toList, 97 ≤ c ∧ c ≤ 122) (hy : y.length = b ∧ ∀ c ∈ y.cps.toList, 97 ≤ c ∧ c ≤ 122) : (x ++ y).length = a + b ∧ ∀ c ∈ (x ++ y).cps.toList, 97 ≤ c ∧ c ≤ 122 := by
 refine ⟨by rw [b53, hx.1, hy.1], fun c hc => ?_⟩
 rw [a15] at hc
 rcases List.mem_append.mp hc with h | h
 ·exact hx.2 c h
 ·exact hy.2 c h
section
variable {S : Sto}
theorem a4x {k : Int} (h0 : 0 ≤ k) (h1 : k < 17576) : ∃ x, n0 [.val (.int k)] S = .ok (.val (.str x)) S ∧ LetS x := by
 have ab : ("abcdefghijklmnopqrstuvwxyz" : Str) = abc := rfl
 have m26 : a0g (.int k) (.int 26) = some (.val (.int (k % 26))) := R4 (by decide)
 obtain ⟨x1, e1, l1, c1⟩ := b2e (j := k % 26) (Int.emod_nonneg _ (by decide)) (Int.emod_lt_of_pos _ (by decide))
 by_cases h26 : k < 26
 ·obtain ⟨x, e, l, c⟩ := b2e h0 h26
  refine ⟨x, ?_, .one l c⟩
  unfold n0
  refine E1 ?_
  unfold B5
  rw [ab]
  generalize abc = A at *
  refine b8 (ρ1 := [some (.val (.int k)), some (.val (.str A)), none]) (S1 := S) (by simp) ?_
  rw [b0h, show sIf (cB (d5 gLt (b7 0) (cC (.int 26)))) (G9 (d5 gIx (b7 1) (b7 0))) r7 [some (.val (.int k)), some (.val (.str A)), none] S = .rt (.val (.str x)) S from b0n (S1 := S) (by simp [h26]) (by simp [e, -a17])]
  rfl
 ·by_cases h702 : k < 702
  ·have d26 : a4z (.int (k - 26)) (.int 26) = some (.val (.int ((k - 26) / 26))) := R6 (by decide) (by decide)
   obtain ⟨x2, e2, l2, c2⟩ := b2e (j := (k - 26) / 26) (Int.ediv_nonneg (by omega) (by decide)) (by omega)
   have ad : w9 (.str x2) (.str x1) = some (.val (.str (x2 ++ x1))) := a6F (by rw [l1, l2, sizeLine_eq]; omega)
   obtain ⟨la, ca⟩ := a5Y ⟨l2, c2⟩ ⟨l1, c1⟩
   refine ⟨x2 ++ x1, ?_, ⟨by omega, by omega, ca⟩⟩
   unfold n0
   refine E1 ?_
   unfold B5
   rw [ab]
   generalize abc = A at *
   refine b8 (ρ1 := [some (.val (.int k)), some (.val (.str A)), none]) (S1 := S) (by simp) ?_
   refine b8 (ρ1 := [some (.val (.int k)), some (.val (.str A)), none]) (S1 := S) (Z6 (S1 := S) (by simp [h26]) (by simp)) ?_
   rw [b0h, show sIf (cB (d5 gLt (b7 0) (cC (.int 702)))) (G9 (d5 w9 (d5 gIx (b7 1) (d5 a4z (d5 gSub (b7 0) (cC (.int 26))) (cC (.int 26)))) (d5 gIx (b7 1) (d5 a0g (b7 0) (cC (.int 26)))))) r7 [some (.val (.int k)), some (.val (.str A)), none] S = .rt (.val (.str (x2 ++ x1))) S from b0n (S1 := S) (by simp [h702]) (by simp [d26, m26, e1, e2, ad, -a17])]
   rfl
  ·have d676 : a4z (.int k) (.int 676) = some (.val (.int (k / 676))) := R6 (by decide) (by decide)
   have d26 : a4z (.int k) (.int 26) = some (.val (.int (k / 26))) := R6 (by decide) (by decide)
   have ma : a0g (.int (k / 676)) (.int 26) = some (.val (.int (k / 676 % 26))) := R4 (by decide)
   have mb : a0g (.int (k / 26)) (.int 26) = some (.val (.int (k / 26 % 26))) := R4 (by decide)
   obtain ⟨x2, e2, l2, c2⟩ := b2e (j := k / 676 % 26) (Int.emod_nonneg _ (by decide)) (Int.emod_lt_of_pos _ (by decide))
   obtain ⟨x3, e3, l3, c3⟩ := b2e (j := k / 26 % 26) (Int.emod_nonneg _ (by decide)) (Int.emod_lt_of_pos _ (by decide))
   obtain ⟨la, ca⟩ := a5Y ⟨l2, c2⟩ ⟨l3, c3⟩
   obtain ⟨lb, cb⟩ := a5Y ⟨la, ca⟩ ⟨l1, c1⟩
   have ad : w9 (.str x2) (.str x3) = some (.val (.str (x2 ++ x3))) := a6F (by rw [l2, l3, sizeLine_eq]; omega)
   have ad2 : w9 (.str (x2 ++ x3)) (.str x1) = some (.val (.str (x2 ++ x3 ++ x1))) := a6F (by rw [la, l1, sizeLine_eq]; omega)
   refine ⟨x2 ++ x3 ++ x1, ?_, ⟨by omega, by omega, cb⟩⟩
   unfold n0
   refine E1 ?_
   unfold B5
   rw [ab]
   generalize abc = A at *
   refine b8 (ρ1 := [some (.val (.int k)), some (.val (.str A)), none]) (S1 := S) (by simp) ?_
   refine b8 (ρ1 := [some (.val (.int k)), some (.val (.str A)), none]) (S1 := S) (Z6 (S1 := S) (by simp [h26]) (by simp)) ?_
   refine b8 (ρ1 := [some (.val (.int k)), some (.val (.str A)), none]) (S1 := S) (Z6 (S1 := S) (by simp [h702]) (by simp)) ?_
   refine b8 (ρ1 := [some (.val (.int k)), some (.val (.str A)), some (.val (.str x2))]) (S1 := S) (by simp [d676, ma, e2, -a17]) ?_
   refine b8 (ρ1 := [some (.val (.int k)), some (.val (.str A)), some (.val (.str (x2 ++ x3)))]) (S1 := S) (by simp [d26, mb, e3, ad, -a17]) ?_
   simp [m26, e1, ad2, -a17]
def c2v (p : Str × Int) : Prop := LetS p.1 ∧ 1 ≤ p.2 ∧ p.2 ≤ 30
theorem a1z {n m : Nat} (hb : HasBag S n m) (hm : m ≤ 1000000) : ∃ (ls : List (Str × Int)) (S' : Sto), v6 [.cel n] S = .ok (.own (ls.map ltD)) S' ∧ ls.length ≤ 60 ∧ (∀ p ∈ ls, c2v p) ∧ HasBag S' n (m + 100) ∧ Ext n S S' := by
 obtain ⟨a, S1, e1, a0, a1, hb1, x1⟩ := b34 (k := 4) hb (by omega) (by decide) (by decide)
 obtain ⟨M, hM0, hM, gM⟩ : ∃ M : Int, 0 < M ∧ M ≤ 61 ∧ gIx (.list [.int 11, .int 11, .int 11, .int 61]) (.int a) = some (.val (.int M)) := by
  have : a = 0 ∨ a = 1 ∨ a = 2 ∨ a = 3 := by omega
  rcases this with q | q | q | q <;> subst q
  ·exact ⟨11, by decide, by decide, rfl⟩
  ·exact ⟨11, by decide, by decide, rfl⟩
  ·exact ⟨11, by decide, by decide, rfl⟩
  ·exact ⟨61, by decide, by decide, rfl⟩
 obtain ⟨k, S2, e2, k0, k1, hb2, x2⟩ := b34 (k := M) hb1 (by omega) hM0 (by omega)
 obtain ⟨b, S3, e3, b0, b1, hb3, x3⟩ := b34 (k := 8) hb2 (by omega) (by decide) (by decide)
 obtain ⟨A, hA0, hA, gA⟩ : ∃ A : Int, 0 < A ∧ A ≤ 30 ∧ gIx (.list [.int 2, .int 3, .int 4, .int 6, .int 2, .int 3, .int 4, .int 30]) (.int b) = some (.val (.int A)) := by
  have : b = 0 ∨ b = 1 ∨ b = 2 ∨ b = 3 ∨ b = 4 ∨ b = 5 ∨ b = 6 ∨ b = 7 := by omega
  rcases this with q | q | q | q | q | q | q | q <;> subst q
  ·exact ⟨2, by decide, by decide, rfl⟩
  ·exact ⟨3, by decide, by decide, rfl⟩
  ·exact ⟨4, by decide, by decide, rfl⟩
  ·exact ⟨6, by decide, by decide, rfl⟩
  ·exact ⟨2, by decide, by decide, rfl⟩
  ·exact ⟨3, by decide, by decide, rfl⟩
  ·exact ⟨4, by decide, by decide, rfl⟩
  ·exact ⟨30, by decide, by decide, rfl⟩
 obtain ⟨l, S4, e4, l0, l1, hb4, x4⟩ := b34 (k := 31 - A) hb3 (by omega) (by omega) (by omega)
 obtain ⟨f, S5, e5, f0, f1, hb5, x5⟩ := b34 (k := 17000) hb4 (by omega) (by decide) (by decide)
 obtain ⟨K, rfl⟩ : ∃ K : Nat, k = (K : Int) := ⟨k.toNat, by omega⟩
 obtain ⟨ρ', S6, e6, ls, y6, rfl, hl, hls, hb6, x6⟩ := D7 (b := f8 6) (body := I8) (fun i ρ S' => ∃ (ls : List (Str × Int)) (y6 : Option T), ρ = [some (.cel n), some (.val (.int (K : Int))), some (.val (.int A)), some (.val (.int (1 + l))), some (.val (.int f)), some (.own (ls.map ltD)), y6] ∧ ls.length = i ∧ (∀ p ∈ ls, c2v p) ∧ HasBag S' n (m + 5 + i) ∧ Ext n S5 S')
  (j8 0 K) 0 [some (.cel n), some (.val (.int (K : Int))), some (.val (.int A)), some (.val (.int (1 + l))), some (.val (.int f)), some (.own []), none] S5 ⟨[], none, rfl, rfl, (fun _ h => nomatch h), hb5.mono (by omega), Ext.refl⟩ (by
   rintro i d ρ S' hd ⟨ls, y6, rfl, hl, hls, hb', x'⟩
   rw [Nat.zero_add] at hl hb'
   obtain ⟨hi, rfl⟩ := J8 hd
   have m97 : E2 (.int 97) (.int (i : Int)) = some (.val (.int (97 * (i : Int)))) := Z8 (Q8 (by omega) (by omega)) (Q8 (by omega) (by omega))
   have md : a0g (.int (f + 97 * (i : Int))) (.int 17576) = some (.val (.int ((f + 97 * (i : Int)) % 17576))) := R4 (by decide)
   obtain ⟨x, ex, hx⟩ := a4x (S := S') (k := (f + 97 * (i : Int)) % 17576) (Int.emod_nonneg _ (by decide)) (Int.emod_lt_of_pos _ (by decide))
   obtain ⟨t, S7, e7, t0, t1, hb7, x7⟩ := b34 (k := A) hb' (by omega) hA0 (by omega)
   have ap : w5 (ls.map ltD) [.tuple [.str x, .int (1 + l + t)]] = some ((ls ++ [(x, 1 + l + t)]).map ltD, .none) := Y0 ltD (x := (x, 1 + l + t)) (by omega)
   refine ⟨_, rfl, [some (.cel n), some (.val (.int (K : Int))), some (.val (.int A)), some (.val (.int (1 + l))), some (.val (.int f)), some (.own ((ls ++ [(x, 1 + l + t)]).map ltD)), some (.val (.int (i : Int)))], S7, .inl ?_, ls ++ [(x, 1 + l + t)], _, rfl, by rw [List.length_append]; simp; omega, fun p hp => ?_, hb7.mono (by omega), x'.trans x7⟩
   ·unfold I8
    generalize (ls ++ [(x, 1 + l + t)]).map ltD = L2 at *
    generalize ls.map ltD = L1 at *
    simp [m97, md, ex, e7, ap]
   ·rcases List.mem_append.mp hp with h | h
    ·exact hls p h
    ·rw [List.mem_singleton.mp h]
     exact ⟨hx, by show 1 ≤ 1 + l + t; omega, by show 1 + l + t ≤ 30; omega⟩)
 rw [Nat.zero_add, E4] at hl hb6
 refine ⟨ls, S6, ?_, by omega, hls, hb6.mono (by omega), ((((x1.trans x2).trans x3).trans x4).trans x5).trans x6⟩
 have gr := a0a (n := K) (y0 (by omega))
 unfold v6
 refine E1 ?_
 unfold K6
 generalize ls.map ltD = L1 at *
 refine b8 (ρ1 := [some (.cel n), some (.val (.int (K : Int))), none, none, none, none, none]) (S1 := S2) (by simp [e1, gM, e2, -E9]) ?_
 refine b8 (ρ1 := [some (.cel n), some (.val (.int (K : Int))), some (.val (.int A)), none, none, none, none]) (S1 := S3) (by simp [e3, gA, -E9]) ?_
 refine b8 (ρ1 := [some (.cel n), some (.val (.int (K : Int))), some (.val (.int A)), some (.val (.int (1 + l))), none, none, none]) (S1 := S4) (by simp [e4]) ?_
 refine b8 (ρ1 := [some (.cel n), some (.val (.int (K : Int))), some (.val (.int A)), some (.val (.int (1 + l))), some (.val (.int f)), none, none]) (S1 := S5) (by simp [e5]) ?_
 refine b8 (ρ1 := [some (.cel n), some (.val (.int (K : Int))), some (.val (.int A)), some (.val (.int (1 + l))), some (.val (.int f)), some (.own []), none]) (S1 := S5) (by simp) ?_
 refine b8 (ρ1 := [some (.cel n), some (.val (.int (K : Int))), some (.val (.int A)), some (.val (.int (1 + l))), some (.val (.int f)), some (.own L1), y6]) (S1 := S6) (by simp [gr, e6]) ?_
 simp
theorem a9S {hx : K5} : t4 hx [.exn hx.a hx.C hx.d ⟨"NoLayout", none⟩] S = .ok (.val (.bool true)) S := by
 unfold t4
 refine E1 ?_
 unfold I0
 simp
theorem a1h {sd : D} {ld : D} : (∀ d, p9 [.val sd, .val ld] S = .ok (.val d) S → l5 [.val sd, .val ld] S = .ok (.val d) S) ∧ (p9 [.val sd, .val ld] S = .exc ⟨"NoLayout", none⟩ S → l5 [.val sd, .val ld] S = .ok (.val (.bool true)) S) := by
 constructor
 ·intro d h
  unfold l5
  refine E1 ?_
  unfold K7
  exact b3Y (by simp [h])
 ·intro h
  unfold l5
  refine E1 ?_
  unfold K7
  refine b3H (e := ⟨"NoLayout", none⟩) (ρ1 := [some (.val sd), some (.val ld), none]) (S1 := S) (by simp [h]) (by simp) (by simp) fun hx => ?_
  have := a9S (S := S) (hx := hx)
  simp [this]
end
end BV
namespace BV
open PySem L2
section
variable {S : Sto}
theorem b5b (u : Nat) : ct (o9 []) u = 0 := by
 have h1 := A7 (o9 []) u
 have h2 : ct (o9 []) u ≤ 0 := b2z (ls := []) u
 omega
theorem a1q {w h : Int} (hh : 0 ≤ h) : ∀ u : Nat, ∃ ps, Way w h (o9 []) u (0, 0) 0 ps
 | 0 => ⟨[], .zero⟩
 | u + 1 => by
  obtain ⟨ps, y⟩ := a1q (w := w) hh u
  have := Way.succ (m := 0) (l := 0) (a := 0) (dc := 0) y (by omega) (by omega) (by simpa using hh) (A7 ..) (by simp) (by rw [b5b, b5b]; simp [onP, wt])
  exact ⟨_, this⟩
theorem b3G {w h : Nat} {c : Int} {wy : List (Nat × Nat)} (b : c2D w h [] c) (y : a7C w h [] wy c) : c = 0 := by
 obtain ⟨ps, e⟩ := a1q (w := (w : Int)) (h := (h : Int)) (by omega) 30
 have h1 := b.least _ _ _ e (by simp)
 have h2 := y.cams
 omega
theorem b8C (ls : List (Str × Int)) : gEq true (.list (ls.map ltD)) (.list (ls.map ltD)) = some (.val (.bool false)) := by
 have eo := (a0n ltD (fun _ => rfl) (fun _ => by simp [ltD, PyData.depth, PyData.depthAll]) ls).1
 rw [c1a eo eo]
 congr 3
 rw [if_pos rfl]
 have : (PyData.list (ls.map ltD)).eqv (.list (ls.map ltD)) = true := by
  rw [b8W]
  clear eo
  induction ls with
  | nil => rfl
  | cons p ms ih => rw [List.map_cons, a1j, ih]; simp [ltD]
 rw [this]
 rfl
theorem b5Q (us : List Int) (rs : List (List e9)) : lf (v4 us rs) = true := by
 unfold v4
 rw [c0m, a3o, c0m, b4v, a3o, b2k]
 rfl
theorem b9z {w h : Nat} {ls : List (Str × Int)} {o : Option Int} (hw1 : 2 ≤ w) (hw : w ≤ 15) (hh1 : 2 ≤ h) (hh : h ≤ 15) (hl : ls.length ≤ 60) (hls : ∀ p ∈ ls, c2v p) (hS : lfS S = true) (k : b8r w h ls o) :
  (o = none ∧ l5 [.val (c7 ((w : Int), (h : Int))), .val (.list (ls.map ltD))] S = .ok (.val (.bool true)) S) ∨
  (∃ c us rs, o = some c ∧ l5 [.val (c7 ((w : Int), (h : Int))), .val (.list (ls.map ltD))] S = .ok (.val (v4 us rs)) S ∧
   r9 [.val (v4 us rs), .val (c7 ((w : Int), (h : Int))), .val (.list (ls.map ltD)), .val (.int c)] S = .ok (.val (.bool true)) S) := by
 have hw30 : ∀ p ∈ ls, 1 ≤ p.2 ∧ p.2 ≤ 30 := fun p hp => (hls p hp).2
 have nb : ∀ p ∈ ls, p.1 ≠ blank := fun p hp => (hls p hp).1.nb
 rcases a8P (S := S) (w := w) (h := h) (by omega) hw hh hl hw30 hS with ⟨e, q⟩ | ⟨lt, c, wy, b, y, e⟩
 ·refine .inl ⟨?_, a1h.2 e⟩
  rcases q with q | q
  ·exact k.full q
  ·by_cases f : w * h ≤ ls.length
   ·exact k.full f
   ·exact IsMinP.uniq (k.min (by omega)) (b3L q)
 ·refine .inr ⟨c, a9l h wy, b5g w h ls wy, IsMinP.uniq (k.min lt) (b4S b), a1h.1 _ e, ?_⟩
  exact a49 (laid y hw30 lt) hw hh hl nb
theorem b39 {w h : Nat} (hw1 : 2 ≤ w) (hw : w ≤ 15) (hh1 : 2 ≤ h) (hh : h ≤ 15) (hS : lfS S = true) :
  ∃ us rs, l5 [.val (c7 ((w : Int), (h : Int))), .val (.list [])] S = .ok (.val (v4 us rs)) S ∧
   r9 [.val (v4 us rs), .val (c7 ((w : Int), (h : Int))), .val (.list []), .val (.int 0)] S = .ok (.val (.bool true)) S := by
 rcases a8P (S := S) (w := w) (h := h) (ls := []) (by omega) hw hh (by simp) (fun _ h => nomatch h) hS with ⟨e, q⟩ | ⟨lt, c, wy, b, y, e⟩
 ·rcases q with q | q
  ·have : 0 < w * h := Nat.mul_pos (by omega) (by omega)
   simp at q
   omega
  ·obtain ⟨ps, e⟩ := a1q (w := (w : Int)) (h := (h : Int)) (by omega) 30
   exact (q _ _ _ e (by simp)).elim
 ·have c0 := b3G b y
  subst c0
  exact ⟨a9l h wy, b5g w h [] wy, a1h.1 _ e, a49 (laid y (fun _ h => nomatch h) lt) hw hh (by simp) (fun _ h => nomatch h)⟩
theorem b9b {ns : List Int} {i : Nat} {y2 y3 y4 y5 y6 y7 y8 : Option T} (hi : i < 1000) (hl : ns.length ≤ 63) (hS : lfS S = true) :
  ∃ (z2 z3 z4 z5 z6 z7 z8 : Option T) (S' : Sto), a4g [some (.scr ns), some (.val (.int (i : Int))), y2, y3, y4, y5, y6, y7, y8] S = .nx [some (.scr ns), some (.val (.int (i : Int))), z2, z3, z4, z5, z6, z7, z8] S' ∧ lfS S' = true := by
 obtain ⟨a, b, e1, hb⟩ := b3x (ns := ns) (k := (i : Int)) (S := S) (by omega) (by omega) hl
 obtain ⟨p, S1, e2, p0, p1, hb1, x1⟩ := b34 (k := 4) (b7k (S := S) hb) (by decide) (by decide) (by decide)
 obtain ⟨g, hg, gd⟩ : ∃ g : Nat, g ≤ 1 ∧ a4z (.int p) (.int 3) = some (.val (.int (g : Int))) := by
  refine ⟨(p / 3).toNat, by omega, ?_⟩
  rw [R6 (by decide) (by decide)]
  congr 3
  omega
 obtain ⟨M, hM0, hM, gM⟩ : ∃ M : Int, 0 < M ∧ M ≤ 14 ∧ gIx (.list [.int 4, .int 14]) (.int (g : Int)) = some (.val (.int M)) := by
  have : g = 0 ∨ g = 1 := by omega
  rcases this with q | q <;> subst q
  ·exact ⟨4, by decide, by decide, rfl⟩
  ·exact ⟨14, by decide, by decide, rfl⟩
 obtain ⟨r, S2, e3, r0, r1, hb2, x2⟩ := b34 (k := M) hb1 (by decide) hM0 (by omega)
 obtain ⟨s, S3, e4, s0, s1, hb3, x3⟩ := b34 (k := M) hb2 (by decide) hM0 (by omega)
 obtain ⟨w, hw⟩ : ∃ w : Nat, 2 + r = (w : Int) := ⟨(2 + r).toNat, by omega⟩
 obtain ⟨h, hh⟩ : ∃ h : Nat, 2 + s = (h : Int) := ⟨(2 + s).toNat, by omega⟩
 obtain ⟨ls, S4, e5, l1, l2, hb4, x4⟩ := a1z hb3 (by decide)
 have hS4 : lfS S4 = true := b6S (b2q hS) (((x1.trans x2).trans x3).trans x4) hb4
 obtain ⟨o, S5, e6, dk, hS5, _⟩ := b0b (w := w) (h := h) (by omega) (by omega) (by omega) l1 (fun p hp => (l2 p hp).2) hS4
 have eq := b8C ls
 have cl : a9w (ls.map ltD) [] = some ([], .none) := rfl
 obtain ⟨us0, rs0, n1, n2⟩ := b39 (S := S5) (w := w) (h := h) (by omega) (by omega) (by omega) (by omega) hS5
 have hwh := b9z (S := S5) (w := w) (h := h) (ls := ls) (o := o) (by omega) (by omega) (by omega) (by omega) l1 l2 hS5 dk
 have lfc := b5Q
 have lfp : lf (c7 ((w : Int), (h : Int))) = true := rfl
 have lfl : lfs (ls.map ltD) = true := a1o ltD (fun _ => rfl) ls
 have gl : a4K [.list (ls.map ltD)] = some (.own (ls.map ltD)) := rfl
 have pe : (PyData.tuple [.int (w : Int), .int (h : Int)]) = c7 ((w : Int), (h : Int)) := rfl
 clear dk l1 l2 hb1 hb2 hb3 hb4 x1 x2 x3 x4
 rcases hwh with ⟨rfl, sa⟩ | ⟨c, us, rs, rfl, sa, gd20⟩
 ·refine ⟨some (.cel S.length), some (.val (.int (g : Int))), some (.val (c7 ((w : Int), (h : Int)))), some (.val (.list (ls.map ltD))), some (.own []), some (.val .none), some (.val (.bool true)), S5, ?_, hS5⟩
  unfold a4g
  generalize ls.map ltD = LS at *
  have lc0 := lfc us0 rs0
  generalize v4 us0 rs0 = C0 at *
  refine b8 (ρ1 := [some (.scr ns), some (.val (.int (i : Int))), some (.cel S.length), y3, y4, y5, y6, y7, y8]) (S1 := S ++ [.lst [.int a, .int b]]) (by simp [e1]) ?_
  refine b8 (ρ1 := [some (.scr ns), some (.val (.int (i : Int))), some (.cel S.length), some (.val (.int (g : Int))), y4, y5, y6, y7, y8]) (S1 := S1) (by simp [e2, gd]) ?_
  refine b8 (ρ1 := [some (.scr ns), some (.val (.int (i : Int))), some (.cel S.length), some (.val (.int (g : Int))), some (.val (c7 ((w : Int), (h : Int)))), y5, y6, y7, y8]) (S1 := S3) (by simp [gM, e3, e4, hw, hh, pe, -E9]) ?_
  generalize c7 ((w : Int), (h : Int)) = SD at *
  refine b8 (ρ1 := [some (.scr ns), some (.val (.int (i : Int))), some (.cel S.length), some (.val (.int (g : Int))), some (.val SD), some (.own LS), y6, y7, y8]) (S1 := S4) (by simp [e5]) ?_
  refine b8 (ρ1 := [some (.scr ns), some (.val (.int (i : Int))), some (.cel S.length), some (.val (.int (g : Int))), some (.val SD), some (.own LS), some (.own LS), y7, y8]) (S1 := S4) (by simp [gl]) ?_
  refine b2c (ρ' := [some (.scr ns), some (.val (.int (i : Int))), some (.cel S.length), some (.val (.int (g : Int))), some (.val SD), some (.val (.list LS)), some (.own LS), y7, y8]) rfl ?_
  refine b8 (ρ1 := [some (.scr ns), some (.val (.int (i : Int))), some (.cel S.length), some (.val (.int (g : Int))), some (.val SD), some (.val (.list LS)), some (.own LS), some (.val .none), y8]) (S1 := S5) (by simp [e6, oiD]) ?_
  refine b8 (ρ1 := [some (.scr ns), some (.val (.int (i : Int))), some (.cel S.length), some (.val (.int (g : Int))), some (.val SD), some (.val (.list LS)), some (.own LS), some (.val .none), some (.val (.bool true))]) (S1 := S5) (by simp [sa, hS5]) ?_
  refine b8 (ρ1 := [some (.scr ns), some (.val (.int (i : Int))), some (.cel S.length), some (.val (.int (g : Int))), some (.val SD), some (.val (.list LS)), some (.own LS), some (.val .none), some (.val (.bool true))]) (S1 := S5) (Z6 (S1 := S5) (by simp [eq]) rfl) ?_
  refine b8 (ρ1 := [some (.scr ns), some (.val (.int (i : Int))), some (.cel S.length), some (.val (.int (g : Int))), some (.val SD), some (.val (.list LS)), some (.own LS), some (.val .none), some (.val (.bool true))]) (S1 := S5) (Z6 (S1 := S5) (by simp [b4F]) rfl) ?_
  refine b8 (ρ1 := [some (.scr ns), some (.val (.int (i : Int))), some (.cel S.length), some (.val (.int (g : Int))), some (.val SD), some (.val (.list LS)), some (.own LS), some (.val .none), some (.val (.bool true))]) (S1 := S5) (Z6 (S1 := S5) (by simp) rfl) ?_
  refine b8 (ρ1 := [some (.scr ns), some (.val (.int (i : Int))), some (.cel S.length), some (.val (.int (g : Int))), some (.val SD), some (.val (.list LS)), some (.own []), some (.val .none), some (.val (.bool true))]) (S1 := S5) (by simp [cl]) ?_
  exact Z6 (S1 := S5) (by simp [n1, n2, lc0, hS5]) rfl
 ·refine ⟨some (.cel S.length), some (.val (.int (g : Int))), some (.val (c7 ((w : Int), (h : Int)))), some (.val (.list (ls.map ltD))), some (.own []), some (.val (.int c)), some (.val (v4 us rs)), S5, ?_, hS5⟩
  unfold a4g
  generalize ls.map ltD = LS at *
  have lc0 := lfc us0 rs0
  have lc1 := lfc us rs
  have nb1 : a3M (.int c) = some (.val (.bool true)) := rfl
  generalize v4 us0 rs0 = C0 at *
  generalize v4 us rs = C1 at *
  refine b8 (ρ1 := [some (.scr ns), some (.val (.int (i : Int))), some (.cel S.length), y3, y4, y5, y6, y7, y8]) (S1 := S ++ [.lst [.int a, .int b]]) (by simp [e1]) ?_
  refine b8 (ρ1 := [some (.scr ns), some (.val (.int (i : Int))), some (.cel S.length), some (.val (.int (g : Int))), y4, y5, y6, y7, y8]) (S1 := S1) (by simp [e2, gd]) ?_
  refine b8 (ρ1 := [some (.scr ns), some (.val (.int (i : Int))), some (.cel S.length), some (.val (.int (g : Int))), some (.val (c7 ((w : Int), (h : Int)))), y5, y6, y7, y8]) (S1 := S3) (by simp [gM, e3, e4, hw, hh, pe, -E9]) ?_
  generalize c7 ((w : Int), (h : Int)) = SD at *
  refine b8 (ρ1 := [some (.scr ns), some (.val (.int (i : Int))), some (.cel S.length), some (.val (.int (g : Int))), some (.val SD), some (.own LS), y6, y7, y8]) (S1 := S4) (by simp [e5]) ?_
  refine b8 (ρ1 := [some (.scr ns), some (.val (.int (i : Int))), some (.cel S.length), some (.val (.int (g : Int))), some (.val SD), some (.own LS), some (.own LS), y7, y8]) (S1 := S4) (by simp [gl]) ?_
  refine b2c (ρ' := [some (.scr ns), some (.val (.int (i : Int))), some (.cel S.length), some (.val (.int (g : Int))), some (.val SD), some (.val (.list LS)), some (.own LS), y7, y8]) rfl ?_
  refine b8 (ρ1 := [some (.scr ns), some (.val (.int (i : Int))), some (.cel S.length), some (.val (.int (g : Int))), some (.val SD), some (.val (.list LS)), some (.own LS), some (.val (.int c)), y8]) (S1 := S5) (by simp [e6, oiD]) ?_
  refine b8 (ρ1 := [some (.scr ns), some (.val (.int (i : Int))), some (.cel S.length), some (.val (.int (g : Int))), some (.val SD), some (.val (.list LS)), some (.own LS), some (.val (.int c)), some (.val C1)]) (S1 := S5) (by simp [sa, hS5, lc1]) ?_
  refine b8 (ρ1 := [some (.scr ns), some (.val (.int (i : Int))), some (.cel S.length), some (.val (.int (g : Int))), some (.val SD), some (.val (.list LS)), some (.own LS), some (.val (.int c)), some (.val C1)]) (S1 := S5) (Z6 (S1 := S5) (by simp [eq]) rfl) ?_
  refine b8 (ρ1 := [some (.scr ns), some (.val (.int (i : Int))), some (.cel S.length), some (.val (.int (g : Int))), some (.val SD), some (.val (.list LS)), some (.own LS), some (.val (.int c)), some (.val C1)]) (S1 := S5) (Z6 (S1 := S5) (by simp) rfl) ?_
  refine b8 (ρ1 := [some (.scr ns), some (.val (.int (i : Int))), some (.cel S.length), some (.val (.int (g : Int))), some (.val SD), some (.val (.list LS)), some (.own LS), some (.val (.int c)), some (.val C1)]) (S1 := S5) (Z6 (S1 := S5) (by simp [gd20]) rfl) ?_
  refine b8 (ρ1 := [some (.scr ns), some (.val (.int (i : Int))), some (.cel S.length), some (.val (.int (g : Int))), some (.val SD), some (.val (.list LS)), some (.own []), some (.val (.int c)), some (.val C1)]) (S1 := S5) (by simp [cl]) ?_
  exact Z6 (S1 := S5) (by simp [n1, n2, lc0, hS5]) rfl
end
theorem law_true (ns : List Int) (hl : ns.length ≤ 63) : ∃ S, a7e [.scr ns] [] = .ok (.val (.bool true)) S := by
 obtain ⟨ρ', S', e, x1, x2, x3, x4, x5, x6, x7, x8, rfl, hS'⟩ := D7 (b := f8 1) (body := a4g) (fun i ρ S' => ∃ x1 x2 x3 x4 x5 x6 x7 x8 : Option T, ρ = [some (.scr ns), x1, x2, x3, x4, x5, x6, x7, x8] ∧ lfS S' = true) (j8 0 2) 0 [some (.scr ns), none, none, none, none, none, none, none, none] [] ⟨none, none, none, none, none, none, none, none, rfl, rfl⟩ (by
   rintro i d ρ S hd ⟨x1, x2, x3, x4, x5, x6, x7, x8, rfl, hS⟩
   obtain ⟨hi, rfl⟩ := J8 hd
   obtain ⟨z2, z3, z4, z5, z6, z7, z8, S2, e1, hS2⟩ := b9b (S := S) (ns := ns) (i := i) (y2 := x2) (y3 := x3) (y4 := x4) (y5 := x5) (y6 := x6) (y7 := x7) (y8 := x8) (by omega) hl hS
   exact ⟨_, rfl, _, S2, .inl e1, _, _, _, _, _, _, _, _, rfl, hS2⟩)
 have r4 := a0a (n := 2) (y0 (by omega))
 refine ⟨S', ?_⟩
 unfold a7e
 refine E1 ?_
 unfold b4W
 refine b8 (by simp [r4]; exact e) ?_
 simp
end BV
namespace BV
open PySem PySem.Spec PyProof.Rows L2
def a6l : List Str := ["letters", "found", "name", "width"]
def b3D : List Str := ["wide", "counts", "units", "spare", "many", "lent", "waiting", "room", "own"]
def a62 : List Str := ["wide", "counts", "units", "spare", "wanted"]
def b3y : List Str := ["size", "counts", "wide", "high", "steps", "units", "found", "state", "rows", "spare", "many", "lent", "told", "behind", "cams"]
def a9J : List Str := ["size", "counts", "steps", "ends", "state", "found", "units", "cams", "ahead", "many", "lent"]
def a3w : List Str := ["wide", "letters", "way", "found", "waiting", "units", "many", "lent", "names", "own", "name", "width"]
def a0J : List Str := ["wide", "cells", "many", "found", "k", "row"]
def a4X : List Str := ["rows", "found", "there", "row", "cells"]
def b1v : List Str := ["size", "letters", "wide", "high", "way", "contents", "units", "rows", "number", "many", "rest", "row"]
def b0y : List Str := ["_law_script", "_law_k"]
def b1I : List Str := ["_law_script", "_law_at", "_law_cell_here", "_law_mix", "_law_k"]
def a94 : List Str := ["_law_bag_here", "_law_many", "_law_digit"]
def a2F : List Str := ["_law_number", "_law_letters_here", "_law_name"]
def a3i : List Str := ["_law_bag_here", "_law_many", "_law_among", "_law_least", "_law_first", "_law_found", "_law_k"]
def Z7 : List Str := ["_law_wide", "_law_counts", "_law_units", "_law_rows", "_law_spare", "_law_known", "_law_state", "_law_best", "_law_waiting", "_law_many", "_law_room", "_law_lent", "_law_own", "_law_more"]
def b0s : List Str := ["_law_size", "_law_letters_here", "_law_counts", "_law_name", "_law_width"]
def a6Y : List Str := ["_law_thing"]
def a22 : List Str := ["_law_thing", "_law_size", "_law_row"]
def a1G : List Str := ["_law_case", "_law_size", "_law_found", "_law_units", "_law_row", "_law_cell_here"]
def b0C : List Str := ["_law_case", "_law_size", "_law_letters_here", "_law_due_here", "_law_cells", "_law_told", "_law_cell_here", "_law_units", "_law_name", "_law_cam"]
def a1I : List Str := ["_law_e", "_law_others"]
def a7c : List Str := ["_law_size", "_law_letters_here", "_law_e"]
def b9v : List Str := ["_law_script", "_law_k", "_law_bag_here", "_law_great", "_law_size", "_law_letters_here", "_law_handed", "_law_due_here", "_law_found"]
def a4m : Scope := scL ["letters", "found", "name", "width"] ["MOST_UNITS"]
def b1Z : Scope := scL ["wide", "counts", "units", "spare", "many", "lent", "waiting", "room", "own"] ["max", "min"]
def a37 : Scope := scL ["wide", "counts", "units", "spare", "wanted"] ["max"]
def b2V : Scope := scL ["size", "counts", "wide", "high", "steps", "units", "found", "state", "rows", "spare", "many", "lent", "told", "behind", "cams"] ["range", "MOST_UNITS", "sorted", "min", "most_rows", "max", "onward"]
def a5V : Scope := { kind := .function, names := [("size", .local), ("counts", .local), ("steps", .cell), ("state", .local), ("ends", .local), ("found", .local), ("units", .local), ("cams", .local), ("ahead", .local), ("many", .local), ("lent", .local), ("stairs", .globalImplicit), ("NoLayout", .globalImplicit), ("min", .globalImplicit), ("range", .globalImplicit), ("MOST_UNITS", .globalImplicit)], isGenerator := false, isCoroutine := false, more := [("fast", .str "size"), ("fast", .str "counts"), ("fast", .str "steps"), ("fast", .str "state"), ("fast", .str "ends"), ("fast", .str "found"), ("fast", .str "units"), ("fast", .str "cams"), ("fast", .str "ahead"), ("fast", .str "many"), ("fast", .str "lent")] }
def a1D : Scope := { kind := .function, names := [("wide", .local), ("letters", .local), ("way", .local), ("many", .local), ("lent", .local), ("found", .local), ("waiting", .local), ("units", .cell), ("names", .local), ("own", .local), ("range", .globalImplicit), ("MOST_UNITS", .globalImplicit), ("len", .globalImplicit)], isGenerator := false, isCoroutine := false, more := [("fast", .str "wide"), ("fast", .str "letters"), ("fast", .str "way"), ("fast", .str "many"), ("fast", .str "lent"), ("fast", .str "found"), ("fast", .str "waiting"), ("fast", .str "units"), ("fast", .str "name"), ("fast", .str "width"), ("fast", .str "names"), ("fast", .str "own")] }
def a0j : Scope := scL ["wide", "cells", "many", "found", "k", "row"] ["range", "len"]
def a2G : Scope := scL ["rows", "found", "there", "row", "cells"] ["list", "tuple"]
def a95 : Scope := { kind := .function, names := [("size", .local), ("letters", .local), ("wide", .cell), ("high", .local), ("way", .local), ("contents", .local), ("units", .local), ("rows", .local), ("number", .local), ("many", .local), ("rest", .local), ("len", .globalImplicit), ("NoLayout", .globalImplicit), ("best_way", .globalImplicit), ("counts_of", .globalImplicit), ("contents_of", .globalImplicit), ("range", .globalImplicit), ("MOST_UNITS", .globalImplicit), ("rows_of_units", .globalImplicit), ("tuple", .globalImplicit), ("with_blank", .globalImplicit)], isGenerator := false, isCoroutine := false, more := [("fast", .str "size"), ("fast", .str "letters"), ("fast", .str "wide"), ("fast", .str "high"), ("fast", .str "way"), ("fast", .str "contents"), ("fast", .str "units"), ("fast", .str "rows"), ("fast", .str "number"), ("fast", .str "many"), ("fast", .str "rest"), ("fast", .str "row")] }
def a6e : Scope := scL ["_law_script", "_law_k"] ["len"]
def b0X : Scope := scL ["_law_script", "_law_at", "_law_cell_here", "_law_mix", "_law_k"] ["abs", "_law_cell", "range", "min", "len"]
def a7E : Scope := scL ["_law_bag_here", "_law_many", "_law_digit"] []
def a1P : Scope := scL ["_law_number", "_law_letters_here", "_law_name"] []
def a1U : Scope := scL ["_law_bag_here", "_law_many", "_law_among", "_law_least", "_law_first", "_law_found", "_law_k"] ["_law_take", "range", "_law_name_by"]
def W8 : Scope := scL ["_law_wide", "_law_counts", "_law_units", "_law_rows", "_law_spare", "_law_known", "_law_state", "_law_best", "_law_waiting", "_law_many", "_law_room", "_law_lent", "_law_own", "_law_more"] ["int", "max", "range", "min", "_law_fewest"]
def a6E : Scope := scL ["_law_size", "_law_letters_here", "_law_counts", "_law_name", "_law_width"] ["len", "_law_fewest"]
def a3W : Scope := scL ["_law_thing"] ["isinstance", "int", "bool"]
def a1O : Scope := { kind := .function, names := [("_law_thing", .local), ("_law_size", .cell), ("isinstance", .globalImplicit), ("tuple", .globalImplicit), ("len", .globalImplicit), ("all", .globalImplicit)], isGenerator := false, isCoroutine := false, more := [("fast", .str "_law_thing"), ("fast", .str "_law_size"), ("fast", .str "_law_row")] }
def a0z : Scope := { kind := .function, names := [("_law_case", .local), ("_law_size", .local), ("_law_units", .local), ("_law_found", .local), ("_law_row", .local), ("_law_cell_here", .local), ("isinstance", .globalImplicit), ("tuple", .globalImplicit), ("len", .globalImplicit), ("all", .globalImplicit), ("_law_is_rows", .globalImplicit), ("zip", .globalImplicit), ("str", .globalImplicit), ("_law_whole", .globalImplicit)], isGenerator := false, isCoroutine := false, more := [("fast", .str "_law_case"), ("fast", .str "_law_size"), ("fast", .str "_law_units"), ("fast", .str "_law_found"), ("fast", .str "_law_row"), ("fast", .str "_law_cell_here")] }
def a55 : Scope := { kind := .function, names := [("_law_case", .local), ("_law_size", .local), ("_law_letters_here", .local), ("_law_due_here", .local), ("_law_cells", .local), ("_law_told", .local), ("_law_cells_of", .globalImplicit), ("sorted", .globalImplicit), ("len", .globalImplicit)], isGenerator := false, isCoroutine := false, more := [("fast", .str "_law_case"), ("fast", .str "_law_size"), ("fast", .str "_law_letters_here"), ("fast", .str "_law_due_here"), ("fast", .str "_law_cells"), ("fast", .str "_law_cell_here"), ("fast", .str "_law_units"), ("fast", .str "_law_name"), ("fast", .str "_law_cam"), ("fast", .str "_law_told")] }
def a0B : Scope := scL ["_law_e", "_law_others"] ["isinstance", "Loose", "NoCase", "NoEnd", "NoHoles", "NoLine", "NoLines", "NoMold", "NoName", "NoPaper", "NoRow", "NoStep", "NoText", "Tight", "TooMany", "NoLayout", "ValueError"]
def a41 : Scope := scL ["_law_size", "_law_letters_here", "_law_e"] ["lay_out", "CastError", "_law_is_alone"]
def b5q : Scope := scL ["_law_script", "_law_k", "_law_bag_here", "_law_great", "_law_size", "_law_letters_here", "_law_handed", "_law_due_here", "_law_found"] ["range", "_law_bag", "_law_take", "_law_letters", "list", "_law_due", "_law_said", "_law_good"]
structure WF (mg : Str → Option Value) : Prop where
 co_MOST_UNITS : ∃ t, mg "MOST_UNITS" = some (.int 30 t)
 fr_abs : mg "abs" = none
 fr_all : mg "all" = none
 fr_bool : mg "bool" = none
 fr_int : mg "int" = none
 fr_isinstance : mg "isinstance" = none
 fr_len : mg "len" = none
 fr_list : mg "list" = none
 fr_max : mg "max" = none
 fr_min : mg "min" = none
 fr_range : mg "range" = none
 fr_sorted : mg "sorted" = none
 fr_str : mg "str" = none
 fr_tuple : mg "tuple" = none
 fr_zip : mg "zip" = none
section
variable {P : Program} {w : World} {K : PySem.W.Frag} {mg : Str → Option Value} {base : Heap}
theorem a3U {cn : Bool} (Wf : WF mg)  : SVs ⟨P, w, K, mg, base, a6l, a4m, fun _ => true, 0, true, none, cn, true, none⟩ (defBody U6) T4 :=
 b9 (g9 1 (B2 ((l9 (d4 c8 j3)).u) ((j4 ((V2 Wf.co_MOST_UNITS).u) (c8).u).u)))
  (b9 (D4 (b1z (d8 0)) (O9 (k6 (f9 2) (k6 (f9 3) F8)))
  (d6 (b6Q 1 (b6 3) (c8).u)))
  (d6 (O3 1)))
theorem b2g {cn : Bool} (Wf : WF mg)  : SVs ⟨P, w, K, mg, base, b3D, b1Z, fun _ => true, 0, true, none, cn, true, none⟩ (defBody a2v) a23 :=
 b9 (g9 6 (B7 a1f Wf.fr_max (d7 (c8).u (d7 ((C9 (c8).u (b6 3)).u) i7))))
  (b9 (g9 7 (C9 ((B2 (b6 0) (b6 4)).u) (b6 6)))
  (b9 (g9 8 (C9 ((k9 (b6 1) (b6 2)).u) (b6 5)))
  (b9 (B3 (o8 b0E (b6 7) (c8).u) (d6 (l6 J7)) k8)
  (b9 (B3 (o8 b6P (b6 8) (b6 7)) (d6 (l6 (D3 (d4 (C9 (b6 7) (b6 8)) (d4 (j4 (b6 6) (b6 5)) j3))))) k8)
  (d6 (l6 (D3 (d4 (B7 X7 Wf.fr_min (d7 ((C9 (b6 7) (b6 8)).u) (d7 ((k9 (b6 1) ((j4 (b6 2) (c8).u).u)).u) i7))) (d4 (j4 (b6 6) (b6 5)) j3)))))))))
theorem a4h {cn : Bool} (Wf : WF mg)  : SVs ⟨P, w, K, mg, base, a62, a37, fun _ => true, 0, true, none, cn, true, none⟩ (defBody T9) U0 :=
 b9 (g9 4 (j4 ((j4 ((B7 a1f Wf.fr_max (d7 (c8).u (d7 ((C9 (c8).u (b6 3)).u) i7))).u) ((k9 (b6 1) (b6 2)).u)).u) ((k9 (b6 1) ((j4 (b6 2) (c8).u).u)).u)))
  (d6 (l6 (a1a ((C9 ((j4 (b6 4) (b6 0)).u) (c8).u).u) (b6 0))))
theorem b2l {cn : Bool} (Wf : WF mg) (R5 : ∀ cn, FnD P w K mg base cn 1 "most_rows" 4 B9) (a3l : ∀ cn, FnD P w K mg base cn 1 "onward" 6 J3) : SVs ⟨P, w, K, mg, base, b3y, b2V, fun _ => true, 1, true, none, cn, true, none⟩ (defBody a2Y) a3m :=
 b9 (a0D (O9 (k6 (f9 2) (k6 (f9 3) F8))) (d8 0))
  (b9 (g9 4 (l9 (d4 (b28 (D3 (d4 c8 (d4 c8 j3))) (D3 (d4 c8 (d4 J7 (d4 c8 (d4 c8 j3)))))) j3)))
  (b9 (D4 (a0H (d7 (c8).u (d7 ((j4 ((V2 Wf.co_MOST_UNITS).u) (c8).u).u) i7)) Wf.fr_range) (f9 5)
  (b9 (g9 6 (b14 true))
  (b9 (D4 (b1z (B7 b0H Wf.fr_sorted (d7 ((k9 (b6 4) ((V0 (c8).u).u)).u) i7))) (f9 7)
  (b9 (a0D (O9 (k6 (f9 8) (k6 (f9 9) F8))) (d8 7))
  (d6 (D4 (C3 (d7 ((j4 ((B7 X7 Wf.fr_min (d7 ((C9 (b6 3) (b6 8)).u) (d7 ((j7 (R5 _) (c9 (d8 2) (c9 (d8 1) (c9 (d8 5) (c9 (d8 9) j6))))).u) i7))).u) (c8).u).u) i7) Wf.fr_range) (f9 10)
  (d6 (D4 (C3 (d7 ((j4 ((B7 X7 Wf.fr_min (d7 ((k9 (b6 1) (b6 5)).u) (d7 ((B7 a1f Wf.fr_max (d7 (c8).u (d7 (b6 9) i7))).u) i7))).u) (c8).u).u) i7) Wf.fr_range) (f9 11)
  (b9 (g9 12 (j7 (a3l _) (c9 (d8 2) (c9 (d8 1) (c9 (d8 5) (c9 (d8 9) (c9 (d8 10) (c9 (d8 11) j6))))))))
  (d6 (B3 (a3b (b6 12)) (b9 (g9 13 (D3 (d4 (j4 (b6 8) (b6 10)) (d4 (k9 (b6 12) (c8).u) j3))))
  (b9 (g9 14 (j4 ((k9 ((a7Z ((k9 (b6 4) ((V0 (c8).u).u)).u) (b6 7)).u) (c8).u).u) ((k9 (b6 12) (c8).u).u)))
  (d6 (B3 ((a0f (o8 b4a (b6 13) (b6 6)) (V4 (o8 b0E (b6 14) ((k9 ((a7Z (b6 6) (b6 13)).u) (c8).u).u)))).t) (d6 (b3c 6 (D3 (d4 (d8 14) (d4 (d8 7) (d4 (d8 10) (d4 (d8 11) j3))))) (b6 13))) k8)))) k8)))))))))
  (a8A 6 (d6 (b0N 4 K3 (d4 (d8 6) j3)))))))
  (d6 (O3 4))))
theorem a7H {cn : Bool} (Wf : WF mg) (a3r : ∀ cn, FnD P w K mg base cn 2 "stairs" 2 F5) (F7 : b9h K mg "NoLayout") : SVs ⟨P, w, K, mg, base, a9J, a5V, fun _ => true, 2, true, none, cn, true, none⟩ (defBody X2) Q4 :=
 b9 (g9 2 (j7 (a3r _) (c9 (d8 0) (c9 (d8 1) j6))))
  (b9 (a8n 3 (own := [("state", 4)]) (c4P (k9 (b6 2) ((V0 (c8).u).u))) (f9 4) (a0M (o8 b0T ((k9 (b6 4) (c8).u).u) (c8).u)) (D3 (d4 (k9 ((a7Z ((k9 (b6 2) ((V0 (c8).u).u)).u) (b6 4)).u) (c8).u) (d4 (d8 4) j3))))
  (b9 (B3 (o8 a6i (b6 3) ((l9 j3).u)) (d6 (a8a F7)) k8)
  (b9 (g9 4 (k9 ((B7 b7H Wf.fr_min (d7 (b6 3) i7)).u) (c8).u))
  (b9 (g9 5 (l9 j3))
  (b9 (D4 (b15 (d7 ((V2 Wf.co_MOST_UNITS).u) (d7 ((V0 (c8).u).u) (d7 ((V0 (c8).u).u) i7))) Wf.fr_range) (f9 6)
  (b9 (a0D (O9 (k6 (f9 7) (k6 (f9 8) (k6 (f9 9) (k6 (f9 10) F8))))) (a7Z ((k9 (b6 2) (b6 6)).u) (b6 4)))
  (b9 (b0N 5 K3 (d4 (D3 (d4 (d8 9) (d4 (d8 10) j3))) j3))
  (d6 (g9 4 (d8 8))))))
  (d6 (l6 (b6s (b6 5)))))))))
theorem a1F {cn : Bool} (Wf : WF mg)  : SVs ⟨P, w, K, mg, base, a3w, a1D, fun _ => true, 0, true, none, cn, true, none⟩ (defBody L4) M3 :=
 b9 (g9 3 (b7E (b8D (own := [("many", 6), ("lent", 7)]) (a1S (b6 2)) (O9 (k6 (f9 6) (k6 (f9 7) F8))) S8 (l9 j3))))
  (b9 (g9 4 (l9 j3))
  (b9 (D4 (a0H (d7 (c8).u (d7 ((j4 ((V2 Wf.co_MOST_UNITS).u) (c8).u).u) i7)) Wf.fr_range) (f9 5)
  (b9 (a0D (O9 (k6 (f9 6) (k6 (f9 7) F8))) (k9 (b6 2) (b6 5)))
  (b9 (a8n 8 (own := [("name", 10), ("width", 11)]) (a1S (b6 1)) (O9 (k6 (f9 10) (k6 (f9 11) F8))) (a0M (o8 a6i (b6 11) (b6 5))) (d8 10))
  (b9 (a7k 3 J0 ((C9 (b6 5) (c8).u).u) (d7 ((a3v (own := [("name", 10)]) (a1S ((b4c (b6 8) b2I (Y9 (b6 7))).u)) (f9 10) S8 (D3 (d4 (d8 10) (d4 c8 j3)))).u) i7))
  (b9 (a7k 3 J0 (b6 5) (d7 ((a3v (own := [("name", 10)]) (a1S (b6 4)) (f9 10) S8 (D3 (d4 (d8 10) (d4 (V0 (c8).u) j3)))).u) i7))
  (b9 (g9 9 (C9 ((B2 (b6 0) (b6 6)).u) ((B7 P2 Wf.fr_len (d7 (b6 4) i7)).u)))
  (b9 (a7k 3 J0 (b6 5) (d7 ((a3v (own := [("name", 10)]) (a1S ((b4c (b6 8) (Y9 (b6 7)) (Y9 ((j4 (b6 7) (b6 9)).u))).u)) (f9 10) S8 (D3 (d4 (d8 10) (d4 c8 j3)))).u) i7))
  (d6 (g9 4 (b4c (b6 8) (Y9 ((j4 (b6 7) (b6 9)).u)) b2I))))))))))
  (a8A 3 (d6 (O3 3)))))
theorem a0k {cn : Bool} (Wf : WF mg)  : SVs ⟨P, w, K, mg, base, a0J, a0j, fun _ => true, 0, true, none, cn, true, none⟩ (defBody G0) G1 :=
 b9 (g9 3 (l9 j3))
  (b9 (D4 (C3 (d7 (b6 2) i7) Wf.fr_range) (f9 4)
  (b9 (g9 5 (b4c (b6 1) (Y9 ((B2 (b6 4) (b6 0)).u)) (Y9 ((B2 ((j4 (b6 4) (c8).u).u) (b6 0)).u))))
  (d6 (b0N 3 K3 (d4 (j4 (b6 5) ((B2 ((l9 (d4 J7 j3)).u) ((C9 (b6 0) ((B7 P2 Wf.fr_len (d7 (b6 5) i7)).u)).u)).u)) j3)))))
  (d6 (O3 3)))
theorem a2J {cn : Bool} (Wf : WF mg)  : SVs ⟨P, w, K, mg, base, a4X, a2G, fun _ => true, 0, true, none, cn, true, none⟩ (defBody N9) O7 :=
 b9 (g9 1 (l9 j3))
  (b9 (g9 2 a0C)
  (b9 (D4 (b1z (d8 0)) (f9 3)
  (b9 (g9 4 (b0Z b2b Wf.fr_list (d7 (b6 3) i7)))
  (b9 (B3 ((a9q (M9 (w1 (b6 2))) (a3s (o8 c1w (J7).u (b6 4)))).t) (b9 (b3c 4 (D3 (d4 a75 (d4 c8 j3))) ((b7n b2x (b6 4) (d7 (J7).u i7)).u))
  (d6 (g9 2 a0C))) k8)
  (d6 (b0N 1 K3 (d4 (b0Z a2D Wf.fr_tuple (d7 (b6 4) i7)) j3))))))
  (d6 (l6 (b0Z a2D Wf.fr_tuple (d7 (b6 1) i7))))))
theorem b0r {cn : Bool} (Wf : WF mg) (X4 : ∀ cn, FnD P w K mg base cn 3 "best_way" 2 v7) (L7 : ∀ cn, FnD P w K mg base cn 1 "contents_of" 3 v8) (T5 : ∀ cn, FnD P w K mg base cn 1 "counts_of" 1 C6) (G6 : ∀ cn, FnD P w K mg base cn 1 "rows_of_units" 3 q9) (O8 : ∀ cn, FnD P w K mg base cn 1 "with_blank" 1 w4) (F7 : b9h K mg "NoLayout") : SVs ⟨P, w, K, mg, base, b1v, a95, fun _ => true, 3, true, none, cn, true, none⟩ (defBody a03) O6 :=
 b9 (a0D (O9 (k6 (f9 2) (k6 (f9 3) F8))) (d8 0))
  (b9 (B3 (o8 b0T ((B7 P2 Wf.fr_len (d7 (b6 1) i7)).u) ((B2 (b6 2) (b6 3)).u)) (d6 (a8a F7)) k8)
  (b9 (g9 4 (j7 (X4 _) (c9 (d8 0) (c9 (j7 (T5 _) (c9 (d8 1) j6)) j6))))
  (a8A 4 (b9 (g9 5 (j7 (L7 _) (c9 (d8 2) (c9 (d8 1) (c9 (d8 4) j6)))))
  (b9 (g9 6 (l9 j3))
  (b9 (g9 7 (l9 j3))
  (b9 (D4 (a0H (d7 (c8).u (d7 ((j4 ((V2 Wf.co_MOST_UNITS).u) (c8).u).u) i7)) Wf.fr_range) (f9 8)
  (b9 (g9 9 (k9 ((k9 (b6 4) (b6 8)).u) (c8).u))
  (b9 (b2R 6 J0 (d7 ((B2 ((l9 (d4 (d8 8) j3)).u) (b6 9)).u) i7))
  (d6 (b2R 7 J0 (d7 ((j7 (G6 _) (c9 (d8 2) (c9 (k9 (b6 5) (b6 8)) (c9 (d8 9) j6)))).u) i7))))))
  (b9 (g9 10 (C9 (b6 3) ((B7 P2 Wf.fr_len (d7 (b6 7) i7)).u)))
  (b9 (b2R 7 J0 (d7 ((a3v (own := [("row", 11)]) (C3 (d7 (b6 10) i7) Wf.fr_range) (f9 11) S8 (B2 ((l9 (d4 J7 j3)).u) (b6 2))).u) i7))
  (d6 (l6 (D3 (d4 (b0Z a2D Wf.fr_tuple (d7 ((j4 (b6 6) ((B2 ((l9 (d4 c8 j3)).u) (b6 10)).u)).u) i7)) (d4 (a8U (j7 (O8 _) (c9 (d8 7) j6))) j3))))))))))))))
theorem a6o {cn : Bool} (Wf : WF mg)  : SVs ⟨P, w, K, mg, base, b0y, a6e, fun _ => true, 0, true, none, cn, true, none⟩ (defBody X8) Q2 :=
 b9 (B3 (o8 b0E (b6 1) ((a4u 0 Wf.fr_len).u)) (d6 (l6 (a8i 0 (b6 1)))) k8)
  (d6 (l6 c8))
theorem a97 {cn : Bool} (Wf : WF mg) (Y5 : ∀ cn, FnD P w K mg base cn 1 "_law_cell" 2 B1) : SVs ⟨P, w, K, mg, base, b1I, b0X, fun _ => true, 1, true, none, cn, true, none⟩ (defBody a0G) W7 :=
 b9 (g9 2 (K0 ((B7 b9j Wf.fr_abs (d7 ((j7 (Y5 _) (c9 (d8 0) (c9 (d8 1) j6))).u) i7)).u) ((B2 ((B2 ((a18 (c8).u (c8).u).u) ((a18 (c8).u (c8).u).u)).u) ((a18 (c8).u (c8).u).u)).u)))
  (b9 (B3 (o8 b0T (b6 2) ((a18 (c8).u (c8).u).u)) (d6 (l6 (l9 (d4 (d8 2) (d4 c8 j3))))) k8)
  (b9 (g9 3 (K0 ((j4 ((j4 (b6 2) ((B2 (c8).u (b6 1)).u)).u) (c8).u).u) (c8).u))
  (b9 (D4 (C3 (d7 ((B7 X7 Wf.fr_min (d7 ((a4u 0 Wf.fr_len).u) (d7 (c8).u i7))).u) i7) Wf.fr_range) (f9 4)
  (d6 (g9 3 (K0 ((j4 ((j4 ((a18 (b6 3) (c8).u).u) ((K0 ((a8i 0 (b6 4)).u) (c8).u).u)).u) ((B2 (c8).u (b6 4)).u)).u) (c8).u))))
  (d6 (l6 (l9 (d4 (d8 3) (d4 c8 j3))))))))
theorem a6h {cn : Bool} (Wf : WF mg)  : SVs ⟨P, w, K, mg, base, a94, a7E, fun _ => true, 0, true, none, cn, true, none⟩ (defBody Y8) Q1 :=
 b9 (B3 (o8 a6i ((L3 0 (c8).u).u) (c8).u) (b9 (g9 2 (K0 ((L3 0 (c8).u).u) (b6 1)))
  (b9 (a3j 0 (a1a ((L3 0 (c8).u).u) (b6 1)) (c8).u)
  (d6 (O3 2)))) k8)
  (b9 (a3j 0 (K0 ((j4 ((j4 ((a18 ((L3 0 (c8).u).u) (c8).u).u) ((B2 (c8).u ((L3 0 (c8).u).u)).u)).u) (c8).u).u) (c8).u) (c8).u)
  (b9 (a3j 0 (j4 ((L3 0 (c8).u).u) (c8).u) (c8).u)
  (d6 (l6 (K0 ((a1a ((K0 ((B2 ((L3 0 (c8).u).u) (c8).u).u) (c8).u).u) (c8).u).u) (b6 1))))))
theorem a1K {cn : Bool} (Wf : WF mg)  : SVs ⟨P, w, K, mg, base, a2F, a1P, fun _ => true, 0, true, none, cn, true, none⟩ (defBody M0) B5 :=
 b9 (g9 1 a75)
  (b9 (B3 (o8 b0E (b6 0) (c8).u) (d6 (l6 (k9 (b6 1) (b6 0)))) k8)
  (b9 (B3 (o8 b0E (b6 0) (c8).u) (d6 (l6 (j4 ((k9 (b6 1) ((a1a ((C9 (b6 0) (c8).u).u) (c8).u).u)).u) ((k9 (b6 1) ((K0 (b6 0) (c8).u).u)).u)))) k8)
  (b9 (g9 2 (k9 (b6 1) ((K0 ((a1a (b6 0) (c8).u).u) (c8).u).u)))
  (b9 (g9 2 (j4 (b6 2) ((k9 (b6 1) ((K0 ((a1a (b6 0) (c8).u).u) (c8).u).u)).u)))
  (d6 (l6 (j4 (b6 2) ((k9 (b6 1) ((K0 (b6 0) (c8).u).u)).u))))))))
theorem a1B {cn : Bool} (Wf : WF mg) (K9 : ∀ cn, FnD P w K mg base cn 1 "_law_name_by" 1 n0) (m7 : ∀ cn, FnD P w K mg base cn 1 "_law_take" 2 j5) : SVs ⟨P, w, K, mg, base, a3i, a1U, fun _ => true, 1, true, none, cn, true, none⟩ (defBody L8) K6 :=
 b9 (g9 1 (j7 (m7 _) (c9 (d8 0) (c9 (k9 ((l9 (d4 c8 (d4 c8 (d4 c8 (d4 c8 j3))))).u) ((j7 (m7 _) (c9 (d8 0) (c9 c8 j6))).u)) j6))))
  (b9 (g9 2 (k9 ((l9 (d4 c8 (d4 c8 (d4 c8 (d4 c8 (d4 c8 (d4 c8 (d4 c8 (d4 c8 j3))))))))).u) ((j7 (m7 _) (c9 (d8 0) (c9 c8 j6))).u)))
  (b9 (g9 3 (j4 (c8).u ((j7 (m7 _) (c9 (d8 0) (c9 (C9 (c8).u (b6 2)) j6))).u)))
  (b9 (g9 4 (j7 (m7 _) (c9 (d8 0) (c9 c8 j6))))
  (b9 (g9 5 (l9 j3))
  (b9 (D4 (C3 (d7 (b6 1) i7) Wf.fr_range) (f9 6)
  (d6 (b0N 5 K3 (d4 (D3 (d4 (j7 (K9 _) (c9 (K0 ((j4 (b6 4) ((B2 (c8).u (b6 6)).u)).u) (c8).u) j6)) (d4 (j4 (b6 3) ((j7 (m7 _) (c9 (d8 0) (c9 (d8 2) j6))).u)) j3))) j3))))
  (d6 (O3 5)))))))
theorem a26 {cn : Bool} {r : Nat} {fR : Fn} (Wf : WF mg) (E3 : ∀ cn, FnD P w K mg base cn (r + 1) "_law_fewest" 6 fR)  : SVs ⟨P, w, K, mg, base, Z7, W8, fun _ => true, r + 1, true, none, cn, true, none⟩ (defBody N8) (m5 fR) :=
 b9 (B3 (o8 b6P (b6 2) (c8).u) (d6 (l6 (k9 ((l9 (d4 J7 (d4 c8 j3))).u) ((b0Z b8I Wf.fr_int (d7 ((a8D b0T (b6 4) (c8).u).u) i7)).u)))) k8)
  (b9 (g9 6 (D3 (d4 (d8 2) (d4 (d8 3) (d4 (d8 4) j3)))))
  (b9 (B3 (b3B 5 (b6 6)) (d6 (l6 (b3e 5 (b6 6)))) k8)
  (b9 (g9 7 J7)
  (b9 (g9 8 (B7 a1f Wf.fr_max (d7 (c8).u (d7 ((V0 (b6 4)).u) i7))))
  (b9 (D4 (C3 (d7 ((j4 (b6 3) (c8).u).u) i7) Wf.fr_range) (f9 9)
  (b9 (g9 10 (C9 ((B2 (b6 0) (b6 9)).u) (b6 8)))
  (b9 (D4 (C3 (d7 ((j4 ((B7 X7 Wf.fr_min (d7 ((k9 (b6 1) (b6 2)).u) (d7 ((B7 a1f Wf.fr_max (d7 (c8).u (d7 (b6 4) i7))).u) i7))).u) (c8).u).u) i7) Wf.fr_range) (f9 11)
  (b9 (g9 12 (C9 ((k9 (b6 1) (b6 2)).u) (b6 11)))
  (d6 (B3 (o8 b0T (b6 10) (c8).u) (b9 (g9 13 (j7 (E3 _) (c9 (d8 0) (c9 (d8 1) (c9 (j4 (b6 2) (c8).u) (c9 (C9 (b6 3) (b6 9)) (c9 (B7 X7 Wf.fr_min (d7 ((C9 (b6 10) (b6 12)).u) (d7 ((k9 (b6 1) ((j4 (b6 2) (c8).u).u)).u) i7))) (c9 (d8 5) j6)))))) (hj := by (try dsimp only [Cc.blk]); (try dsimp only); omega)))
  (d6 (B3 ((a9q (a3b (b6 13)) (a3s ((a0f (b2W (b6 7)) (V4 (o8 b0E ((j4 ((j4 (b6 8) (b6 11)).u) (b6 13)).u) (b6 7)))).t))).t) (d6 (g9 7 (j4 ((j4 (b6 8) (b6 11)).u) (b6 13)))) k8))) k8))))
  (d6 (B3 (o8 b6P (b6 10) ((j4 ((k9 (b6 1) (b6 2)).u) ((k9 (b6 1) ((j4 (b6 2) (c8).u).u)).u)).u)) (d6 b4J) k8)))))
  (b9 (a3j 5 (d8 7) (b6 6))
  (d6 (O3 7))))))))
theorem a6O {cn : Bool} (Wf : WF mg) (E3 : ∀ cn, FnD P w K mg base cn 34 "_law_fewest" 6 D8) : SVs ⟨P, w, K, mg, base, b0s, a6E, fun _ => true, 34, true, none, cn, true, none⟩ (defBody X9) P8 :=
 b9 (B3 (o8 b0T ((B7 P2 Wf.fr_len (d7 (b6 1) i7)).u) ((B2 ((k9 (b6 0) (c8).u).u) ((k9 (b6 0) (c8).u).u)).u)) (d6 (l6 J7)) k8)
  (b9 (g9 2 (B2 ((l9 (d4 c8 j3)).u) (c8).u))
  (b9 (D4 (b1z (d8 1)) (O9 (k6 (f9 3) (k6 (f9 4) F8)))
  (d6 (b3c 2 (j4 ((k9 (b6 2) (b6 4)).u) (c8).u) (b6 4))))
  (d6 (l6 (a8U (j7 (E3 _) (c9 (k9 (b6 0) (c8).u) (c9 (d8 2) (c9 c8 (c9 (k9 (b6 0) (c8).u) (c9 c8 (c9 (b5D (b14 true)) j6))))))))))))
theorem a43 {cn : Bool} (Wf : WF mg)  : SVs ⟨P, w, K, mg, base, a6Y, a3W, fun _ => true, 0, true, none, cn, true, none⟩ (defBody T2) T1 :=
 d6 (l6 (a4p (a0d (b6 0) Wf.fr_isinstance Wf.fr_int b6o) (a4n (b8B ((a0d (b6 0) Wf.fr_isinstance Wf.fr_bool b4V).u)))))
theorem a1E {cn : Bool} (Wf : WF mg)  : SVs ⟨P, w, K, mg, base, a22, a1O, fun _ => true, 0, true, none, cn, true, none⟩ (defBody M7) M5 :=
 b9 (B3 ((a0f (M9 (w1 ((a0d (b6 0) Wf.fr_isinstance Wf.fr_tuple O2).u))) (V4 (o8 a3S ((B7 P2 Wf.fr_len (d7 (b6 0) i7)).u) ((k9 (b6 1) (c8).u).u)))).t) (d6 (l6 a0C)) k8)
  (d6 (l6 (B7 b5t Wf.fr_all (d7 ((a3v (own := [("_law_row", 2)]) (a1S (b6 0)) (f9 2) S8 (a4p (a0d (b6 2) Wf.fr_isinstance Wf.fr_tuple O2) (a4n (a8D a6i ((B7 P2 Wf.fr_len (d7 (b6 2) i7)).u) ((k9 (b6 1) (c8).u).u))))).u) i7))))
theorem a0Q {cn : Bool} (Wf : WF mg) (L9 : ∀ cn, FnD P w K mg base cn 1 "_law_is_rows" 2 v5) (L5 : ∀ cn, FnD P w K mg base cn 1 "_law_whole" 1 o7) : SVs ⟨P, w, K, mg, base, a1G, a0z, fun _ => true, 1, true, none, cn, true, none⟩ (defBody I4) I5 :=
 b9 (B3 ((a0f (M9 (w1 ((a0d (b6 0) Wf.fr_isinstance Wf.fr_tuple O2).u))) (a0f (o8 a3S ((B7 P2 Wf.fr_len (d7 (b6 0) i7)).u) (c8).u) (a0f (M9 (w1 ((a0d ((k9 (b6 0) (c8).u).u) Wf.fr_isinstance Wf.fr_tuple O2).u))) (V4 (o8 a3S ((B7 P2 Wf.fr_len (d7 ((k9 (b6 0) (c8).u).u) i7)).u) ((k9 (b6 1) (c8).u).u)))))).t) (d6 (l6 J7)) k8)
  (b9 (B3 ((a0f (M9 (w1 ((B7 b5t Wf.fr_all (d7 ((a3v (own := [("_law_units", 3)]) (a1S ((k9 (b6 0) (c8).u).u)) (f9 3) S8 (a4p (j7 (L5 _) (c9 (d8 3) j6)) (a4n (b3Q b3t b3t (c8).u (b6 3) (c8).u)))).u) i7)).u))) (V4 (M9 (w1 ((j7 (L9 _) (c9 (k9 (b6 0) (c8).u) (c9 (d8 1) j6))).u))))).t) (d6 (l6 J7)) k8)
  (b9 (g9 2 (l9 j3))
  (b9 (D4 (b57 (a9k (k9 (b6 0) (c8).u) (a9k (k9 (b6 0) (c8).u) b6L)) Wf.fr_zip) (O9 (k6 (f9 3) (k6 (f9 4) F8)))
  (d6 (D4 (b1z (d8 4)) (f9 5)
  (d6 (B3 (a3b (b6 5)) (b9 (B3 ((a0f (M9 (w1 ((a0d (b6 5) Wf.fr_isinstance Wf.fr_tuple O2).u))) (a0f (o8 a3S ((B7 P2 Wf.fr_len (d7 (b6 5) i7)).u) (c8).u) (V4 (M9 (w1 ((a0d ((k9 (b6 5) (c8).u).u) Wf.fr_isinstance Wf.fr_str b5V).u)))))).t) (d6 (l6 J7)) k8)
  (b9 (B3 ((a0f (M9 (w1 ((j7 (L5 _) (c9 (k9 (b6 5) (c8).u) j6)).u))) (V4 (M9 (b4C b3t b3t ((V0 (c8).u).u) ((k9 (b6 5) (c8).u).u) (c8).u)))).t) (d6 (l6 J7)) k8)
  (d6 (b0N 2 K3 (d4 (D3 (d4 (d8 3) (d4 (k9 (b6 5) (c8).u) (d4 (k9 (b6 5) (c8).u) j3)))) j3))))) k8)))))
  (d6 (O3 2)))))
theorem a6A {cn : Bool} (Wf : WF mg) (I7 : ∀ cn, FnD P w K mg base cn 2 "_law_cells_of" 2 t7) : SVs ⟨P, w, K, mg, base, b0C, a55, fun _ => true, 2, true, none, cn, true, none⟩ (defBody Y7) Y2 :=
 b9 (g9 4 (j7 (I7 _) (c9 (d8 0) (c9 (d8 1) j6))))
  (b9 (B3 ((a0f (b2W (b6 4)) (V4 (o8 a3S ((a3v (own := [("_law_cell_here", 6)]) (a1S (b6 4)) (f9 6) (a0M (o8 a6i ((k9 (b6 6) (c8).u).u) (a75).u)) (k9 (b6 6) (c8).u)).u) ((l9 (d4 c8 j3)).u)))).t) (d6 (l6 a0C)) k8)
  (b9 (g9 5 (B7 a8K Wf.fr_sorted (d7 ((a3v (own := [("_law_units", 7), ("_law_name", 8), ("_law_cam", 9)]) (a1S (b6 4)) (O9 (k6 (f9 7) (k6 (f9 8) (k6 (f9 9) F8)))) (a0M (o8 a3S (b6 8) (a75).u)) (D3 (d4 (d8 8) (d4 (j4 (b6 7) (b6 9)) j3)))).u) i7)))
  (d6 (l6 (a4p (a8D a6i (b6 5) ((B7 a8K Wf.fr_sorted (d7 (b6 2) i7)).u)) (a4n (a8D a6i ((B7 P2 Wf.fr_len (d7 ((a3v (own := [("_law_cell_here", 6)]) (a1S (b6 4)) (f9 6) (a0M (o8 a3S ((k9 (b6 6) (c8).u).u) (c8).u)) (d8 6)).u) i7)).u) (b6 3))))))))
theorem a0h {cn : Bool} (Wf : WF mg) (b0Q : a0Y K) (a6z : N5 K mg "Loose") (a2M : N5 K mg "NoCase") (a5U : N5 K mg "NoEnd") (a08 : N5 K mg "NoHoles") (Z1 : N5 K mg "NoLayout") (a3h : N5 K mg "NoLine") (a04 : N5 K mg "NoLines") (a3B : N5 K mg "NoMold") (a2V : N5 K mg "NoName") (a0K : N5 K mg "NoPaper") (a5Z : N5 K mg "NoRow") (a2w : N5 K mg "NoStep") (a3u : N5 K mg "NoText") (a6g : N5 K mg "Tight") (a1i : N5 K mg "TooMany") (P3 : N5 K mg "ValueError") (hx : K5) : SVs ⟨P, w, K, mg, base, a1I, a0B, fun _ => true, 0, false, some hx, cn, false, none⟩ (defBody H9) (I0 hx) :=
 b9 (g9 1 (b1R (hx := hx) 0 b0Q (ClsL.cons a6z rfl (by decide) (fun _ => rfl) (ClsL.cons a2M rfl (by decide) (fun _ => rfl) (ClsL.cons a5U rfl (by decide) (fun _ => rfl) (ClsL.cons a08 rfl (by decide) (fun _ => rfl) (ClsL.cons a3h rfl (by decide) (fun _ => rfl) (ClsL.cons a04 rfl (by decide) (fun _ => rfl) (ClsL.cons a3B rfl (by decide) (fun _ => rfl) (ClsL.cons a2V rfl (by decide) (fun _ => rfl) (ClsL.cons a0K rfl (by decide) (fun _ => rfl) (ClsL.cons a5Z rfl (by decide) (fun _ => rfl) (ClsL.cons a2w rfl (by decide) (fun _ => rfl) ClsL.nil))))))))))) rfl Wf.fr_isinstance))
  (b9 (B3 ((a0f (w1 (b6 1)) (V4 (w1 ((b1R (hx := hx) 0 b0Q (ClsL.cons a3u rfl (by decide) (fun _ => rfl) (ClsL.cons a6g rfl (by decide) (fun _ => rfl) (ClsL.cons a1i rfl (by decide) (fun _ => rfl) ClsL.nil))) rfl Wf.fr_isinstance).u)))).t) (d6 (l6 a0C)) k8)
  (d6 (l6 (a4p (b5l (hx := hx) 0 b0Q Z1 rfl Wf.fr_isinstance) (a4n (b5l (hx := hx) 0 b0Q P3 rfl Wf.fr_isinstance))))))
theorem a4l {cn : Bool} (Wf : WF mg) (a1m : ∀ cn, FnD P w K mg base cn 4 "lay_out" 2 p9) (R7 : c0I K mg "CastError") (I6 : ∀ cn, c0Q P w K mg base cn 1 "_law_is_alone" 1 t4) : SVs ⟨P, w, K, mg, base, a7c, a41, fun _ => true, 4, true, none, cn, true, none⟩ (defBody T6) K7 :=
 d6 (b4X 2 (d6 (l6 (j7 (a1m _) (c9 (d8 0) (c9 (d8 1) j6))))) R7 (fun hx => d6 (l6 (b30 (hx := hx) (I6 _) (c9 (d8 2) j6) rfl))))
theorem c0d {cn : Bool} (Wf : WF mg) (a1s : ∀ cn, FnD P w K mg base cn 2 "_law_bag" 2 G8) (X1 : ∀ cn, FnD P w K mg base cn 35 "_law_due" 2 A9) (Q3 : ∀ cn, FnD P w K mg base cn 3 "_law_good" 4 r9) (K8 : ∀ cn, FnD P w K mg base cn 2 "_law_letters" 1 v6) (M6 : ∀ cn, FnD P w K mg base cn 5 "_law_said" 2 l5) (m7 : ∀ cn, FnD P w K mg base cn 1 "_law_take" 2 j5) : SVs ⟨P, w, K, mg, base, b9v, b5q, fun _ => true, 35, true, none, cn, true, none⟩ (defBody b5U) b4W :=
 b9 (D4 (C3 (d7 (c8).u i7) Wf.fr_range) (f9 1)
  (b9 (b6F 2 (j7 (a1s _) (c9 (d8 0) (c9 (d8 1) j6))))
  (b9 (g9 3 (a1a ((j7 (m7 _) (c9 (d8 2) (c9 c8 j6))).u) (c8).u))
  (b9 (g9 4 (D3 (d4 (j4 (c8).u ((j7 (m7 _) (c9 (d8 2) (c9 (k9 ((l9 (d4 c8 (d4 c8 j3))).u) (b6 3)) j6))).u)) (d4 (j4 (c8).u ((j7 (m7 _) (c9 (d8 2) (c9 (k9 ((l9 (d4 c8 (d4 c8 j3))).u) (b6 3)) j6))).u)) j3))))
  (b9 (g9 5 (j7 (K8 _) (c9 (d8 2) j6)))
  (b9 (g9 6 (b0Z b2b Wf.fr_list (d7 (b6 5) i7)))
  (a8A 5 (b9 (g9 7 (j7 (X1 _) (c9 (d8 4) (c9 (d8 5) j6))))
  (b9 (g9 8 (a8U (j7 (M6 _) (c9 (d8 4) (c9 (d8 6) j6)))))
  (b9 (B3 (o8 a3S (b6 6) (b6 5)) (d6 (l6 a0C)) k8)
  (b9 (B3 ((a9q (b2W (b6 7)) (a3s (o8 b55 (b6 8) (a0C).u))).t) (d6 (l6 a0C)) k8)
  (b9 (B3 ((a9q (a3b (b6 7)) (a3s (M9 (w1 ((j7 (Q3 _) (c9 (d8 8) (c9 (d8 4) (c9 (d8 5) (c9 (d8 7) j6))))).u))))).t) (d6 (l6 a0C)) k8)
  (b9 (b9d 6 b4N)
  (d6 (B3 (M9 (w1 ((j7 (Q3 _) (c9 (a8U (j7 (M6 _) (c9 (d8 4) (c9 (d8 6) j6)))) (c9 (d8 4) (c9 (l9 j3) (c9 c8 j6))))).u))) (d6 (l6 a0C)) k8)))))))))))))))
  (d6 (l6 a0C))
end
set_option maxHeartbeats 0
theorem facts {P : Program} {w : World} {K : PySem.W.Frag} {h : Heap} {mg : Str → Option Value} {f : Addr} (X : K.In h) (Gn : h.Ns mainGlobals mg) (hfa : mg ("law" : Str) = some (.ref f)) (c : SaysB faL dfL tsL exL w K) :
  ∃ fd : FuncData, (∀ (s : Shared) (v : Value), BindsTo s fd ⟨[v], []⟩ [("_law_script", v)]) ∧ ∀ base : Heap, FnOk P w K mg base (CXg false P w) 36 f fd ["_law_script"] (spD K mg 1 a7e) := by
 have Wf : WF mg := ⟨He.int_ok X Gn (c.fact 23 (f := .int "MOST_UNITS" 30) rfl), He.free_ok X Gn (c.fact 24 (f := .free "abs") rfl), He.free_ok X Gn (c.fact 25 (f := .free "all") rfl), He.free_ok X Gn (c.fact 26 (f := .free "bool") rfl), He.free_ok X Gn (c.fact 27 (f := .free "int") rfl), He.free_ok X Gn (c.fact 28 (f := .free "isinstance") rfl), He.free_ok X Gn (c.fact 29 (f := .free "len") rfl), He.free_ok X Gn (c.fact 30 (f := .free "list") rfl), He.free_ok X Gn (c.fact 31 (f := .free "max") rfl), He.free_ok X Gn (c.fact 32 (f := .free "min") rfl), He.free_ok X Gn (c.fact 33 (f := .free "range") rfl), He.free_ok X Gn (c.fact 34 (f := .free "sorted") rfl), He.free_ok X Gn (c.fact 35 (f := .free "str") rfl), He.free_ok X Gn (c.fact 36 (f := .free "tuple") rfl), He.free_ok X Gn (c.fact 37 (f := .free "zip") rfl)⟩
 have F7 : b9h K mg "NoLayout" := b7l X Gn (c.fact 38 (f := .glo "NoLayout") rfl) (c.fact 39 (f := .exc "NoLayout") rfl)
 have R7 : c0I K mg "CastError" := b6q X Gn (c.more_ 0 (e := fun K => b1O K "CastError") rfl)
 have b0Q : a0Y K := b0A (c.more_ 1 (e := fun K => a6y K) rfl)
 have a6z : N5 K mg "Loose" := w8 X Gn (c.more_ 2 (e := fun K => T8 K "Loose") rfl)
 have a2M : N5 K mg "NoCase" := w8 X Gn (c.more_ 3 (e := fun K => T8 K "NoCase") rfl)
 have a5U : N5 K mg "NoEnd" := w8 X Gn (c.more_ 4 (e := fun K => T8 K "NoEnd") rfl)
 have a08 : N5 K mg "NoHoles" := w8 X Gn (c.more_ 5 (e := fun K => T8 K "NoHoles") rfl)
 have Z1 : N5 K mg "NoLayout" := w8 X Gn (c.more_ 6 (e := fun K => T8 K "NoLayout") rfl)
 have a3h : N5 K mg "NoLine" := w8 X Gn (c.more_ 7 (e := fun K => T8 K "NoLine") rfl)
 have a04 : N5 K mg "NoLines" := w8 X Gn (c.more_ 8 (e := fun K => T8 K "NoLines") rfl)
 have a3B : N5 K mg "NoMold" := w8 X Gn (c.more_ 9 (e := fun K => T8 K "NoMold") rfl)
 have a2V : N5 K mg "NoName" := w8 X Gn (c.more_ 10 (e := fun K => T8 K "NoName") rfl)
 have a0K : N5 K mg "NoPaper" := w8 X Gn (c.more_ 11 (e := fun K => T8 K "NoPaper") rfl)
 have a5Z : N5 K mg "NoRow" := w8 X Gn (c.more_ 12 (e := fun K => T8 K "NoRow") rfl)
 have a2w : N5 K mg "NoStep" := w8 X Gn (c.more_ 13 (e := fun K => T8 K "NoStep") rfl)
 have a3u : N5 K mg "NoText" := w8 X Gn (c.more_ 14 (e := fun K => T8 K "NoText") rfl)
 have a6g : N5 K mg "Tight" := w8 X Gn (c.more_ 15 (e := fun K => T8 K "Tight") rfl)
 have a1i : N5 K mg "TooMany" := w8 X Gn (c.more_ 16 (e := fun K => T8 K "TooMany") rfl)
 have P3 : N5 K mg "ValueError" := b31 (He.free_ok X Gn (c.fact 40 (f := .free "ValueError") rfl)) (c.more_ 17 (e := fun K => c2q K) rfl)
 have gl : ∀ (i : Nat) {x : Str}, faL[i]? = some (.glo x) → mg x = some (.ref (He.ga K x)) := fun i x h => He.glo_ok X Gn (c.fact i (f := .glo x) h)
 obtain ⟨b44, a7I⟩ := c.dO 0 (n := "counts_of") (s := U6) rfl
 have T5 : ∀ base, ∀ cn, FnD P w K mg base cn 1 "counts_of" 1 C6 := fun base cn => n9 (ps := ["letters"]) a7I (by kernel_rfl) (a0x (by kernel_rfl)) (gl 0 rfl) (al1 fun _ _ _ _ _ _ _ => rfl) (by decide) rfl (a3U Wf  )
 obtain ⟨b9J, b3z⟩ := c.dO 1 (n := "onward") (s := a2v) rfl
 have a3l : ∀ base, ∀ cn, FnD P w K mg base cn 1 "onward" 6 J3 := fun base cn => n9 (ps := ["wide", "counts", "units", "spare", "many", "lent"]) b3z (by kernel_rfl) (a0x (by kernel_rfl)) (gl 1 rfl) (al6 fun _ _ _ _ _ _ _ _ _ _ _ _ => rfl) (by decide) rfl (b2g Wf  )
 obtain ⟨b5u, a6B⟩ := c.dO 2 (n := "most_rows") (s := T9) rfl
 have R5 : ∀ base, ∀ cn, FnD P w K mg base cn 1 "most_rows" 4 B9 := fun base cn => n9 (ps := ["wide", "counts", "units", "spare"]) a6B (by kernel_rfl) (a0x (by kernel_rfl)) (gl 2 rfl) (al4 fun _ _ _ _ _ _ _ _ _ _ => rfl) (by decide) rfl (a4h Wf  )
 obtain ⟨b9H, b3O⟩ := c.dO 3 (n := "stairs") (s := a2Y) rfl
 have a3r : ∀ base, ∀ cn, FnD P w K mg base cn 2 "stairs" 2 F5 := fun base cn => n9 (ps := ["size", "counts"]) b3O (by kernel_rfl) (a0x (by kernel_rfl)) (gl 3 rfl) (al2 fun _ _ _ _ _ _ _ _ => rfl) (by decide) rfl (b2l Wf (R5 base) (a3l base) )
 obtain ⟨b6N, a9U⟩ := c.dO 4 (n := "best_way") (s := X2) rfl
 have X4 : ∀ base, ∀ cn, FnD P w K mg base cn 3 "best_way" 2 v7 := fun base cn => n9 (ps := ["size", "counts"]) a9U (by kernel_rfl) (a0x (by kernel_rfl)) (gl 4 rfl) (al2 fun _ _ _ _ _ _ _ _ => rfl) (by decide) rfl (a7H Wf (a3r base) F7)
 obtain ⟨b3p, a2X⟩ := c.dO 5 (n := "contents_of") (s := L4) rfl
 have L7 : ∀ base, ∀ cn, FnD P w K mg base cn 1 "contents_of" 3 v8 := fun base cn => n9 (ps := ["wide", "letters", "way"]) a2X (by kernel_rfl) (a0x (by kernel_rfl)) (gl 5 rfl) (al3 fun _ _ _ _ _ _ _ _ _ => rfl) (by decide) rfl (a1F Wf  )
 obtain ⟨b1j, a1b⟩ := c.dO 6 (n := "rows_of_units") (s := G0) rfl
 have G6 : ∀ base, ∀ cn, FnD P w K mg base cn 1 "rows_of_units" 3 q9 := fun base cn => n9 (ps := ["wide", "cells", "many"]) a1b (by kernel_rfl) (a0x (by kernel_rfl)) (gl 6 rfl) (al3 fun _ _ _ _ _ _ _ _ _ => rfl) (by decide) rfl (a0k Wf  )
 obtain ⟨b4H, a4q⟩ := c.dO 7 (n := "with_blank") (s := N9) rfl
 have O8 : ∀ base, ∀ cn, FnD P w K mg base cn 1 "with_blank" 1 w4 := fun base cn => n9 (ps := ["rows"]) a4q (by kernel_rfl) (a0x (by kernel_rfl)) (gl 7 rfl) (al1 fun _ _ _ _ _ _ _ => rfl) (by decide) rfl (a2J Wf  )
 obtain ⟨b7Y, b18⟩ := c.dO 8 (n := "lay_out") (s := a03) rfl
 have a1m : ∀ base, ∀ cn, FnD P w K mg base cn 4 "lay_out" 2 p9 := fun base cn => n9 (ps := ["size", "letters"]) b18 (by kernel_rfl) (a0x (by kernel_rfl)) (gl 8 rfl) (al2 fun _ _ _ _ _ _ _ _ => rfl) (by decide) rfl (b0r Wf (X4 base) (L7 base) (T5 base) (G6 base) (O8 base) F7)
 obtain ⟨b7z, b0D⟩ := c.dO 9 (n := "_law_cell") (s := X8) rfl
 have Y5 : ∀ base, ∀ cn, FnD P w K mg base cn 1 "_law_cell" 2 B1 := fun base cn => n9 (ps := ["_law_script", "_law_k"]) b0D (by kernel_rfl) (a0x (by kernel_rfl)) (gl 9 rfl) (al2 fun _ _ _ _ _ _ _ _ => rfl) (by decide) rfl (a6o Wf  )
 obtain ⟨b8a, b1V⟩ := c.dO 10 (n := "_law_bag") (s := a0G) rfl
 have a1s : ∀ base, ∀ cn, FnD P w K mg base cn 2 "_law_bag" 2 G8 := fun base cn => n9 (ps := ["_law_script", "_law_at"]) b1V (by kernel_rfl) (a0x (by kernel_rfl)) (gl 10 rfl) (al2 fun _ _ _ _ _ _ _ _ => rfl) (by decide) rfl (a97 Wf (Y5 base) )
 obtain ⟨b5Y, b0W⟩ := c.dO 11 (n := "_law_take") (s := Y8) rfl
 have m7 : ∀ base, ∀ cn, FnD P w K mg base cn 1 "_law_take" 2 j5 := fun base cn => n9 (ps := ["_law_bag_here", "_law_many"]) b0W (by kernel_rfl) (a0x (by kernel_rfl)) (gl 11 rfl) (al2 fun _ _ _ _ _ _ _ _ => rfl) (by decide) rfl (a6h Wf  )
 obtain ⟨b3l, a20⟩ := c.dO 12 (n := "_law_name_by") (s := M0) rfl
 have K9 : ∀ base, ∀ cn, FnD P w K mg base cn 1 "_law_name_by" 1 n0 := fun base cn => n9 (ps := ["_law_number"]) a20 (by kernel_rfl) (a0x (by kernel_rfl)) (gl 12 rfl) (al1 fun _ _ _ _ _ _ _ => rfl) (by decide) rfl (a1K Wf  )
 obtain ⟨b3k, a3y⟩ := c.dO 13 (n := "_law_letters") (s := L8) rfl
 have K8 : ∀ base, ∀ cn, FnD P w K mg base cn 2 "_law_letters" 1 v6 := fun base cn => n9 (ps := ["_law_bag_here"]) a3y (by kernel_rfl) (a0x (by kernel_rfl)) (gl 13 rfl) (al1 fun _ _ _ _ _ _ _ => rfl) (by decide) rfl (a1B Wf (K9 base) (m7 base) )
 obtain ⟨b4u, Z4⟩ := c.dO 14 (n := "_law_fewest") (s := N8) rfl
 have FR_law_fewest : ∀ base, ∀ r : Nat, ∀ cn, FnD P w K mg base cn (r + 1) "_law_fewest" 6 (b5M 14 m5 r) := fun base r => Nat.rec (motive := fun r => ∀ cn, FnD P w K mg base cn (r + 1) "_law_fewest" 6 (b5M 14 m5 r)) (fun cn => n9 (k := 0) (N := Z7) (sc := W8) (cod := none) (ps := ["_law_wide", "_law_counts", "_law_units", "_law_rows", "_law_spare", "_law_known"]) Z4 (by kernel_rfl) (a0x (by kernel_rfl)) (gl 14 rfl) (al6 fun _ _ _ _ _ _ _ _ _ _ _ _ => rfl) (by decide) rfl b6M) (fun r ih cn => n9 (k := r + 1) (ps := ["_law_wide", "_law_counts", "_law_units", "_law_rows", "_law_spare", "_law_known"]) Z4 (by kernel_rfl) (a0x (by kernel_rfl)) (gl 14 rfl) (al6 fun _ _ _ _ _ _ _ _ _ _ _ _ => rfl) (by decide) rfl (a26 Wf ih  )) r
 have E3 : ∀ base, ∀ cn, FnD P w K mg base cn 34 "_law_fewest" 6 D8 := fun base cn => FR_law_fewest base 33 cn
 obtain ⟨b7c, b0p⟩ := c.dO 15 (n := "_law_due") (s := X9) rfl
 have X1 : ∀ base, ∀ cn, FnD P w K mg base cn 35 "_law_due" 2 A9 := fun base cn => n9 (ps := ["_law_size", "_law_letters_here"]) b0p (by kernel_rfl) (a0x (by kernel_rfl)) (gl 15 rfl) (al2 fun _ _ _ _ _ _ _ _ => rfl) (by decide) rfl (a6O Wf (E3 base) )
 obtain ⟨b5E, a52⟩ := c.dO 16 (n := "_law_whole") (s := T2) rfl
 have L5 : ∀ base, ∀ cn, FnD P w K mg base cn 1 "_law_whole" 1 o7 := fun base cn => n9 (ps := ["_law_thing"]) a52 (by kernel_rfl) (a0x (by kernel_rfl)) (gl 16 rfl) (al1 fun _ _ _ _ _ _ _ => rfl) (by decide) rfl (a43 Wf  )
 obtain ⟨b3o, a3k⟩ := c.dO 17 (n := "_law_is_rows") (s := M7) rfl
 have L9 : ∀ base, ∀ cn, FnD P w K mg base cn 1 "_law_is_rows" 2 v5 := fun base cn => n9 (ps := ["_law_thing", "_law_size"]) a3k (by kernel_rfl) (a0x (by kernel_rfl)) (gl 17 rfl) (al2 fun _ _ _ _ _ _ _ _ => rfl) (by decide) rfl (a1E Wf  )
 obtain ⟨b2A, a1u⟩ := c.dO 18 (n := "_law_cells_of") (s := I4) rfl
 have I7 : ∀ base, ∀ cn, FnD P w K mg base cn 2 "_law_cells_of" 2 t7 := fun base cn => n9 (ps := ["_law_case", "_law_size"]) a1u (by kernel_rfl) (a0x (by kernel_rfl)) (gl 18 rfl) (al2 fun _ _ _ _ _ _ _ _ => rfl) (by decide) rfl (a0Q Wf (L9 base) (L5 base) )
 obtain ⟨b60, b03⟩ := c.dO 19 (n := "_law_good") (s := Y7) rfl
 have Q3 : ∀ base, ∀ cn, FnD P w K mg base cn 3 "_law_good" 4 r9 := fun base cn => n9 (ps := ["_law_case", "_law_size", "_law_letters_here", "_law_due_here"]) b03 (by kernel_rfl) (a0x (by kernel_rfl)) (gl 19 rfl) (al4 fun _ _ _ _ _ _ _ _ _ _ => rfl) (by decide) rfl (a6A Wf (I7 base) )
 obtain ⟨b2t, a1y⟩ := c.dO 20 (n := "_law_is_alone") (s := H9) rfl
 have I6 : ∀ base cn, c0Q P w K mg base cn 1 "_law_is_alone" 1 t4 := fun base cn => c0e (ps := ["_law_e"]) a1y (by kernel_rfl) (a0x (by kernel_rfl)) (gl 20 rfl) (al1 fun _ _ _ _ _ _ _ => rfl) (by decide) rfl (a0h Wf b0Q a6z a2M a5U a08 Z1 a3h a04 a3B a2V a0K a5Z a2w a3u a6g a1i P3)
 obtain ⟨b5I, a5X⟩ := c.dO 21 (n := "_law_said") (s := T6) rfl
 have M6 : ∀ base, ∀ cn, FnD P w K mg base cn 5 "_law_said" 2 l5 := fun base cn => n9 (ps := ["_law_size", "_law_letters_here"]) a5X (by kernel_rfl) (a0x (by kernel_rfl)) (gl 21 rfl) (al2 fun _ _ _ _ _ _ _ _ => rfl) (by decide) rfl (a4l Wf (a1m base) R7 (I6 base))
 obtain ⟨b8T, b9m⟩ := c.dO 22 (n := "law") (s := b5U) rfl
 have e := hfa.symm.trans (He.glo_ok X Gn (c.fact 22 (f := .glo "law") rfl))
 cases e
 have b := FunD.bindsA (ps := ["_law_script"]) b9m (fun _ _ _ _ _ _ us hl => match us, hl with | [_], _ => rfl)
 exact ⟨b8T, fun s v => b s [v] rfl, fun base => b6w (N := b9v) (g := b4W) (sc := b5q) (ps := ["_law_script"]) b9m (by kernel_rfl) (a0x (by kernel_rfl)) (by decide) rfl (c0d Wf (a1s base) (X1 base) (Q3 base) (K8 base) (M6 base) (m7 base) )⟩
end BV
open PySem PySem.W PySem.Calls PyProof.Rows
set_option maxHeartbeats 0 in
theorem PySem.Challenge.cw_ribboncast_k20_laid_out_holds : PySem.Challenge.rw_ribboncast_k20_laid_out.Holds := by
 w_on; o_law
 refine HandSHeadRun.head_any (r := OpenLaw.row PySem.Challenge.rw_ribboncast_k20_laid_out) (q := view (OpenLaw.row PySem.Challenge.rw_ribboncast_k20_laid_out).prog [42]) (H := BV.hk) (ob := BV.ob) (M := 9000) (loose := BV.nmL) (d := HandSHeadRun.topDef (OpenLaw.row PySem.Challenge.rw_ribboncast_k20_laid_out).prog 42) (kwd := []) BV.ob_eq
  (by kernel_rfl) (fun s => by kernel_rfl) BV.run (by kernel_rfl) (by kernel_rfl) (by kernel_rfl) (by rfl) (by first | assumption | decide +kernel) (by decide +kernel) ⟨rfl, rfl, rfl, rfl, rfl, by decide +kernel⟩ ?hw ?hc
 case hw => w_witness2
 case hc =>
  refine BV.walk_ofCX (l := PySem.Challenge.rw_ribboncast_k20_laid_out) (n := 63) (k := 36) (x := "_law_script") (CX := BV.CXg false (PySem.Challenge.rw_ribboncast_k20_laid_out).prog) rfl (by decide) (by kernel_rfl) ⟨rfl, by decide, by decide⟩ ?F (BV.cx_no (cn := false))
  intro w mg fa h Y G hmg0
  obtain ⟨K, KX, c⟩ := Y
  have hmg : mg ("law" : PySem.Str) = some (.ref fa) := by
   have e : (HandSHeadRun.topDef (OpenLaw.row PySem.Challenge.rw_ribboncast_k20_laid_out).prog 42).name = ("law" : PySem.Str) := by kernel_rfl
   rw [← e]
   exact hmg0
  obtain ⟨fd, hb, hF⟩ := BV.facts (P := (PySem.Challenge.rw_ribboncast_k20_laid_out).prog) (w := w) KX G hmg c
  exact ⟨K, fd, _, KX, hb, fun H a ns hl _ hS => BV.law_sp hl hS (BV.law_true ns hl), fun base _ _ => hF base⟩
