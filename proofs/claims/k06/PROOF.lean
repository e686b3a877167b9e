import PyProof.Rows.All
import Wide.All
import OpenK.AllK
import Wide.FinOn
import HandS.ForMost
import HandS.ForExc
import HandS.Wide
import HandS.IsInst
import HandS.FStr
import HandS.Deep
import HandS.TupAny
import HandS.HotCalls
import HandS.HeadHook1
import HandS.Lambda
import HandS.SortKw
import HandS.HeadHook4
import KE.SortKeyHeap
import HandS.Dict
import HandS.Small
import HandS.Flow
import HandS.TryOnly
import HandS.More
import HandS.Defaults
import HandS.Ends
import HandS.StrMore
import HandS.RaiseMore
import HandS.Style
import KE.GoesEnum
import HandS.Zip
import HandS.ExcInit
import HandS.ExcOwn
import HandS.TryMany
import HandS.SortInts
import HandS.WordsDict
import HandS.HeadHook2
import HandS.HeadHook3
import KE.KExcIs
import HandS.ExcField
import HandS.ExcCtx
import HandS.WideBits
import HandS.ExcIs
import HandS.Strs
import HandS.SetFor
import HandS.Set
import HandS.Head0
import HandS.Head1
import HandS.Head2
import HandS.HeadEnd
import PySem.Challenge.RW_ribboncast_k06_cases_judged
set_option Elab.async false
set_option linter.all false
set_option maxRecDepth 100000
set_option maxHeartbeats 4000000
/-! The by-value calculus: data, owners, what a state stands for. -/
namespace BV
open PySem PySem.Spec PyProof.Rows L2

abbrev D := PyData
/-- who may change the list at an address -/
inductive Ow where
  | slot (i : Nat) | cell (n : Nat) | tmp | prot
  deriving DecidableEq
abbrev Gh := Addr → Option Ow

/-- a key of a dict as data -/
def keyD : Key → D
  | .inl i => .int i
  | .inr x => .str x
/-- a dict whose keys are tuples of ints: its entries -/
def tHash (ks : List Int) : Int := reduceHash (Builtin.Tuple.tupleHashOf (ks.map hashInt))
def entT (x : List Int × Addr × Value) : DictEntry := ⟨tHash x.1, .ref x.2.1, x.2.2⟩
def tdf (a : Addr) (xs : List (List Int × Addr × Value)) (h : Heap) : Prop := ∃ o es ep, h.get? a = some o ∧ o.ExactDict ∧ o.data = .dict es ep ∧ es.toList = xs.map entT ∧ (xs.map (·.1)).Nodup
theorem tdf_stay {a : Addr} {xs : List (List Int × Addr × Value)} : ∀ h1 h2 : Heap, tdf a xs h1 → (∀ o, h1.get? a = some o → h2.get? a = some o) → tdf a xs h2 := fun h1 h2 ⟨o, es, ep, e, r⟩ k => ⟨o, es, ep, k o e, r⟩
/-- its keys' tuples, its values -/
abbrev KX (K : PySem.W.Frag) (H : Hp) : List (List Int × V) → List (List Int × Addr × Value) → Prop := Paired fun p q => p.1 = q.1 ∧ SqT K H q.2.1 (p.1.map V.int) ∧ RelV p.2 q.2.2
/-- a dict stands at a, to be changed: its keys as data, its values; q: its keys are tuples -/
def DAtW (K : PySem.W.Frag) (q : Bool) (H : Hp) (a : Addr) (ks : List D) (vs : List V) : Prop := match q with
  | false => ∃ kvs : List (Key × V), H a = some (.dK kvs) ∧ ks = kvs.map (fun p => keyD p.1) ∧ vs = kvs.map (·.2)
  | true => ∃ (kvs : List (List Int × V)) (xs : List (List Int × Addr × Value)), H a = some (.ext (tdf a xs)) ∧ KX K H kvs xs ∧ (a == sysModules) = false ∧ ks = kvs.map (fun p => .tuple (p.1.map PyData.int)) ∧ vs = kvs.map (·.2)
/-- .. to be read -/
def DAt (K : PySem.W.Frag) (q : Bool) (H : Hp) (a : Addr) (ks : List D) (vs : List V) : Prop := match q with
  | false => ∃ kvs : List (Key × V), Rd H a (.dK kvs) ∧ ks = kvs.map (fun p => keyD p.1) ∧ vs = kvs.map (·.2)
  | true => ∃ (kvs : List (List Int × V)) (xs : List (List Int × Addr × Value)), H a = some (.ext (tdf a xs)) ∧ KX K H kvs xs ∧ (a == sysModules) = false ∧ ks = kvs.map (fun p => .tuple (p.1.map PyData.int)) ∧ vs = kvs.map (·.2)
theorem DAtW.r {K : PySem.W.Frag} {q : Bool} {H : Hp} {a : Addr} {ks : List D} {vs : List V} (h : DAtW K q H a ks vs) : DAt K q H a ks vs := by
  cases q with
  | false =>
    obtain ⟨kvs, e, r⟩ := h
    exact ⟨kvs, .inl e, r⟩
  | true => exact h
/-- a dict's data; one whose keys are tuples is marked -/
def mkD (q : Bool) (kvs : List (D × D)) : List (D × D) := if q then (.none, .none) :: kvs else kvs
def unD : List (D × D) → Bool × List (D × D)
  | (.none, .none) :: r => (true, r)
  | r => (false, r)
theorem unD_key (k : Key) (d : D) (r : List (D × D)) : unD ((keyD k, d) :: r) = (false, (keyD k, d) :: r) := by cases k <;> rfl
theorem DAt.un {q : Bool} {H : Hp} {a : Addr} {ks : List D} {vs : List V} {ds : List D} {K : PySem.W.Frag} (h : DAt K q H a ks vs) : unD (mkD q (ks.zip ds)) = (q, ks.zip ds) := by
  cases q with
  | true => rfl
  | false =>
    obtain ⟨kvs, _, e, _⟩ := h
    subst e
    show unD _ = _
    cases kvs with
    | nil => rfl
    | cons p kvs =>
      cases ds with
      | nil => rfl
      | cons d ds => exact unD_key p.1 d _

mutual
/-- v stands for d; no list of it is owned -/
inductive Rep (K : PySem.W.Frag) (o : Gh) (H : Hp) : V → D → Prop
  | non : Rep K o H .non .none
  | bl (b : Bool) : Rep K o H (.bl b) (.bool b)
  | int (i : Int) : Rep K o H (.int i) (.int i)
  | str (x : Str) : PyData.strOk x = true → x.length ≤ sizeLine → Rep K o H (.str x) (.str x)
  | lst (a : Addr) (vs : List V) (ds : List D) : H a = some (.lst vs) → o a = none → vs.length ≤ sizeLine → RepAll K o H vs ds → Rep K o H (.ref a) (.list ds)
  | tup (a : Addr) (vs : List V) (ds : List D) : SqT K H a vs → vs.length ≤ sizeLine → RepAll K o H vs ds → Rep K o H (.ref a) (.tuple ds)
  | dct (q : Bool) (a : Addr) (ks : List D) (vs : List V) (ds : List D) (kvs : List (D × D)) : DAt K q H a ks vs → o a = none → vs.length ≤ sizeLine → ks.length = vs.length → RepAll K o H vs ds → kvs = mkD q (ks.zip ds) → Rep K o H (.ref a) (.dict kvs)
inductive RepAll (K : PySem.W.Frag) (o : Gh) (H : Hp) : List V → List D → Prop
  | nil : RepAll K o H [] []
  | cons (v : V) (d : D) (vs : List V) (ds : List D) : Rep K o H v d → RepAll K o H vs ds → RepAll K o H (v :: vs) (d :: ds)
end

/-- what may be owned is a list, a dict, an instance -/
def Ownable : HO → Prop
  | .lst _ => True
  | .dK _ => True
  | .dT _ => True
  | .ext _ => True
  | .ins _ _ _ => True
  | .own _ => True
  | .tbl _ => True
  | _ => False
def Trk (o : Gh) (H : Hp) : Prop := ∀ a, o a ≠ none → ∃ u, H a = some u ∧ Ownable u

section
variable {K : PySem.W.Frag} {o o' : Gh} {H H' : Hp}
/-- what is kept of unowned objects -/
def Kept (o : Gh) (H : Hp) (o' : Gh) (H' : Hp) : Prop := ∀ a u, H a = some u → o a = none → H' a = some u ∧ o' a = none
theorem rd_kept {a : Addr} {u : HO} (h : ∀ u, H a = some u → H' a = some u) (r : Rd H a u) : Rd H' a u := by
  rcases r with r | ⟨ob, r⟩
  · exact .inl (h _ r)
  · exact .inr ⟨ob, h _ r⟩
theorem KX.kept {kvs : List (List Int × V)} {xs : List (List Int × Addr × Value)} (hk : ∀ b us, SqT K H b us → SqT K H' b us) (r : KX K H kvs xs) : KX K H' kvs xs := Paired.mapP r fun _ _ z => ⟨z.1, hk _ _ z.2.1, z.2.2⟩
theorem DAt.kept {q : Bool} {a : Addr} (h : ∀ u, H a = some u → H' a = some u) (hk : ∀ b us, SqT K H b us → SqT K H' b us) {ks : List D} {vs : List V} (d : DAt K q H a ks vs) : DAt K q H' a ks vs := by
  cases q with
  | false =>
    obtain ⟨kvs, e, r⟩ := d
    exact ⟨kvs, rd_kept h e, r⟩
  | true =>
    obtain ⟨kvs, xs, e, k, r⟩ := d
    exact ⟨kvs, xs, h _ e, k.kept hk, r⟩
theorem DAtW.kept {q : Bool} {a : Addr} (h : ∀ u, H a = some u → H' a = some u) (hk : ∀ b us, SqT K H b us → SqT K H' b us) {ks : List D} {vs : List V} (d : DAtW K q H a ks vs) : DAtW K q H' a ks vs := by
  cases q with
  | false =>
    obtain ⟨kvs, e, r⟩ := d
    exact ⟨kvs, h _ e, r⟩
  | true =>
    obtain ⟨kvs, xs, e, k, r⟩ := d
    exact ⟨kvs, xs, h _ e, k.kept hk, r⟩
theorem rd_is {a : Addr} {u : HO} (r : Rd H a u) : ∃ u, H a = some u := by
  rcases r with r | ⟨ob, r⟩
  · exact ⟨_, r⟩
  · exact ⟨_, r⟩
theorem DAt.is {q : Bool} {a : Addr} {ks : List D} {vs : List V} (d : DAt K q H a ks vs) : ∃ u, H a = some u ∧ True := by
  cases q with
  | false =>
    obtain ⟨kvs, e, r⟩ := d
    obtain ⟨u, h⟩ := rd_is e
    exact ⟨u, h, trivial⟩
  | true =>
    obtain ⟨kvs, xs, e, r⟩ := d
    exact ⟨_, e, trivial⟩
theorem Trk.free (t : Trk o H) {a : Addr} {u : HO} (h : H a = some u) (n : ¬ Ownable u) : o a = none := by
  cases e : o a with
  | none => rfl
  | some w =>
    obtain ⟨u', h', q⟩ := t a (by rw [e]; simp)
    rw [h] at h'; cases h'
    exact absurd q n
theorem Trk.new (t : Trk o H) {a : Addr} (h : H a = none) : o a = none := by
  cases e : o a with
  | none => rfl
  | some w =>
    obtain ⟨u', h', q⟩ := t a (by rw [e]; simp)
    rw [h] at h'; cases h'
theorem SqT.kept (t : Trk o H) (k : Kept o H o' H') {a : Addr} {vs : List V} (h : SqT K H a vs) : SqT K H' a vs := by
  rcases h with (h | ⟨ob, h⟩) | h
  · exact .inl (.inl (k a _ h (t.free h (fun z => z))).1)
  · exact .inl (.inr ⟨ob, (k a _ h (t.free h (fun z => z))).1⟩)
  · exact .inr h
mutual
theorem Rep.kept (t : Trk o H) (k : Kept o H o' H') : ∀ {v : V} {d : D}, Rep K o H v d → Rep K o' H' v d
  | _, _, .non => .non
  | _, _, .bl b => .bl b
  | _, _, .int i => .int i
  | _, _, .str x h1 h2 => .str x h1 h2
  | _, _, .lst a vs ds h1 h2 h3 h4 => .lst a vs ds (k a _ h1 h2).1 (k a _ h1 h2).2 h3 (RepAll.kept t k h4)
  | _, _, .tup a vs ds h1 h2 h3 => .tup a vs ds (SqT.kept t k h1) h2 (RepAll.kept t k h3)
  | _, _, .dct tk a ks vs ds kvs h1 h2 h3 h5 h4 e => by
    obtain ⟨u, hu, _⟩ := h1.is
    exact .dct tk a ks vs ds kvs (h1.kept (fun u hu => (k a u hu h2).1) fun b us z => SqT.kept t k z) (k a u hu h2).2 h3 h5 (RepAll.kept t k h4) e
theorem RepAll.kept (t : Trk o H) (k : Kept o H o' H') : ∀ {vs : List V} {ds : List D}, RepAll K o H vs ds → RepAll K o' H' vs ds
  | _, _, .nil => .nil
  | _, _, .cons v d vs ds h1 h2 => .cons v d vs ds (Rep.kept t k h1) (RepAll.kept t k h2)
end
theorem RepAll.length : ∀ {vs : List V} {ds : List D}, RepAll K o H vs ds → vs.length = ds.length
  | _, _, .nil => rfl
  | _, _, .cons v d vs ds _ h2 => by rw [List.length_cons, List.length_cons, RepAll.length h2]
theorem RepAll.append : ∀ {vs ws : List V} {ds es : List D}, RepAll K o H vs ds → RepAll K o H ws es → RepAll K o H (vs ++ ws) (ds ++ es)
  | _, _, _, _, .nil, q => q
  | _, _, _, _, .cons v d vs ds h1 h2, q => .cons v d _ _ h1 (RepAll.append h2 q)
theorem RepAll.get : ∀ {vs : List V} {ds : List D} {i : Nat} {d : D}, RepAll K o H vs ds → ds[i]? = some d → ∃ v, vs[i]? = some v ∧ Rep K o H v d
  | _, _, _, _, .nil, e => by simp at e
  | _, _, 0, _, .cons v d vs ds h1 _, e => by simp at e; subst e; exact ⟨v, rfl, h1⟩
  | _, _, i + 1, _, .cons v d vs ds _ h2, e => by
    obtain ⟨w, q1, q2⟩ := RepAll.get (i := i) h2 (by simpa using e)
    exact ⟨w, by simpa using q1, q2⟩
theorem RepAll.getV : ∀ {vs : List V} {ds : List D} {i : Nat} {v : V}, RepAll K o H vs ds → vs[i]? = some v → ∃ d, ds[i]? = some d ∧ Rep K o H v d
  | _, _, _, _, .nil, e => by simp at e
  | _, _, 0, _, .cons v d vs ds h1 _, e => by simp at e; subst e; exact ⟨d, rfl, h1⟩
  | _, _, i + 1, _, .cons v d vs ds _ h2, e => by
    obtain ⟨w, q1, q2⟩ := RepAll.getV (i := i) h2 (by simpa using e)
    exact ⟨w, by simpa using q1, q2⟩
theorem RepAll.set {v : V} {d : D} (r : Rep K o H v d) : ∀ {vs : List V} {ds : List D} (i : Nat), RepAll K o H vs ds → RepAll K o H (vs.set i v) (ds.set i d)
  | _, _, _, .nil => .nil
  | _, _, 0, .cons _ _ vs ds _ h2 => .cons _ _ _ _ r h2
  | _, _, i + 1, .cons _ _ vs ds h1 h2 => .cons _ _ _ _ h1 (RepAll.set r i h2)
theorem RepAll.take : ∀ {vs : List V} {ds : List D} (n : Nat), RepAll K o H vs ds → RepAll K o H (vs.take n) (ds.take n)
  | _, _, 0, _ => .nil
  | _, _, _ + 1, .nil => .nil
  | _, _, n + 1, .cons _ _ _ _ h1 h2 => .cons _ _ _ _ h1 (RepAll.take n h2)
theorem RepAll.drop : ∀ {vs : List V} {ds : List D} (n : Nat), RepAll K o H vs ds → RepAll K o H (vs.drop n) (ds.drop n)
  | _, _, 0, h => h
  | _, _, _ + 1, .nil => .nil
  | _, _, n + 1, .cons _ _ _ _ _ h2 => RepAll.drop n h2
theorem RepAll.reverse {vs : List V} {ds : List D} (h : RepAll K o H vs ds) : RepAll K o H vs.reverse ds.reverse := by
  induction vs generalizing ds with
  | nil => cases h; exact .nil
  | cons v vs ih =>
    cases h with
    | cons _ d _ ds h1 h2 =>
      rw [List.reverse_cons, List.reverse_cons]
      exact (ih h2).append (.cons _ _ _ _ h1 .nil)
theorem RepAll.ints : ∀ (ns : List Int), RepAll K o H (ns.map V.int) (ns.map PyData.int)
  | [] => .nil
  | n :: ns => .cons _ _ _ _ (.int n) (RepAll.ints ns)

/-! ### reading off -/
theorem Rep.nonV {v : V} (h : Rep K o H v .none) : v = .non := by cases h; rfl
theorem Rep.blV {v : V} {b : Bool} (h : Rep K o H v (.bool b)) : v = .bl b := by cases h; rfl
theorem Rep.intV {v : V} {i : Int} (h : Rep K o H v (.int i)) : v = .int i := by cases h; rfl
theorem Rep.strV {v : V} {x : Str} (h : Rep K o H v (.str x)) : v = .str x ∧ PyData.strOk x = true ∧ x.length ≤ sizeLine := by cases h; exact ⟨rfl, by assumption, by assumption⟩
theorem Rep.lstV {v : V} {ds : List D} (h : Rep K o H v (.list ds)) : ∃ a vs, v = .ref a ∧ H a = some (.lst vs) ∧ o a = none ∧ vs.length ≤ sizeLine ∧ RepAll K o H vs ds := by
  cases h with
  | lst a vs ds h1 h2 h3 h4 => exact ⟨a, vs, rfl, h1, h2, h3, h4⟩
theorem Rep.tupV {v : V} {ds : List D} (h : Rep K o H v (.tuple ds)) : ∃ a vs, v = .ref a ∧ SqT K H a vs ∧ vs.length ≤ sizeLine ∧ RepAll K o H vs ds := by
  cases h with
  | tup a vs ds h1 h2 h3 => exact ⟨a, vs, rfl, h1, h2, h3⟩
theorem Rep.tupW {v : V} {ds : List D} (h : Rep K o H v (.tuple ds)) : ∃ a vs, v = .ref a ∧ SqT K H a vs ∧ vs.length ≤ sizeLine ∧ RepAll K o H vs ds := by
  cases h with
  | tup a vs ds h1 h2 h3 => exact ⟨a, vs, rfl, h1, h2, h3⟩
mutual
/-- without dicts -/
def noDict : D → Bool
  | .list xs => noDicts xs
  | .tuple xs => noDicts xs
  | .dict _ => false
  | .none => true
  | .bool _ => true
  | .int _ => true
  | .str _ => true
def noDicts : List D → Bool
  | [] => true
  | x :: xs => noDict x && noDicts xs
end
mutual
theorem Rep.dp : ∀ {v : V} {d : D}, Rep K o H v d → noDict d = true → Dp K H v d
  | _, _, .non, _ => .non
  | _, _, .bl b, _ => .bl b
  | _, _, .int i, _ => .int i
  | _, _, .str x h1 h2, _ => .str x
  | _, _, .lst a vs ds h1 h2 h3 h4, n => .lst (.of h1) (RepAll.dp h4 n)
  | _, _, .tup a vs ds h1 h2 h3, n => .tup h1 (RepAll.dp h3 n)
  | _, _, .dct tk a ks vs ds kvs h1 h2 h3 h5 h4 e, n => nomatch n
theorem RepAll.dp : ∀ {vs : List V} {ds : List D}, RepAll K o H vs ds → noDicts ds = true → DpAll K H vs ds
  | _, _, .nil, _ => .nil
  | _, _, .cons v d vs ds h1 h2, n => by
    rw [noDicts, Bool.and_eq_true] at n
    exact .cons (Rep.dp h1 n.1) (RepAll.dp h2 n.2)
end
mutual
theorem Rep.can : ∀ {v : V} {d : D}, Rep K o H v d → noDict d = true → PyData.canLay0 d = true
  | _, _, .non, _ => rfl
  | _, _, .bl b, _ => rfl
  | _, _, .int i, _ => rfl
  | _, _, .str x h1 h2, _ => h1
  | _, _, .lst a vs ds h1 h2 h3 h4, n => RepAll.can h4 n
  | _, _, .tup a vs ds h1 h2 h3, n => RepAll.can h3 n
  | _, _, .dct tk a ks vs ds kvs h1 h2 h3 h5 h4 e, n => nomatch n
theorem RepAll.can : ∀ {vs : List V} {ds : List D}, RepAll K o H vs ds → noDicts ds = true → PyData.canLayAll0 ds = true
  | _, _, .nil, _ => rfl
  | _, _, .cons v d vs ds h1 h2, n => by
    rw [noDicts, Bool.and_eq_true] at n
    show (PyData.canLay0 d && PyData.canLayAll0 ds) = true
    rw [Rep.can h1 n.1, RepAll.can h2 n.2]
    rfl
end
end
end BV
/-! The by-value calculus: sorted(xs, key=lambda x: -len(x)), readings. -/
namespace BV
open PySem PySem.Spec PyProof.Rows L2 LamX

/-- the lambda's function object -/
def lamO (f c' : Addr) (q : Str) (params : Arguments) (body : Expr) (scope : Scope) : HO := .ext fun h => ∃ pm ctv, h.get? f = some (PySem.W.kla_obj "<lambda>" q params body scope [] pm c' ctv)
/-- the table grows by code objects of that name -/
def tabStep (P : Addr) (q : Str) (H H2 : Hp) : Prop :=
  (∀ b u, H b = some u → b ≠ P → H2 b = some u) ∧ ∃ ps ps2 : Array Value, H P = some (.tbl ps) ∧ H2 P = some (.tbl ps2) ∧ TriplesOk ps2.toList ∧ ∀ (pos : Pos) (cv : Value), codeAmong pos ps2.toList = some cv → ∃ c, cv = .ref c ∧ H2 c = some (CodeO c q) ∧ (H c = none ∨ ∃ pos', codeAmong pos' ps.toList = some cv)
section
variable {X : Cx} {pins : List (Addr × Obj)} {σ : L2.St} {H : Hp} {s : Shared}
theorem lamO_ok {P : Program} {w : World} {H : Hp} {h : Heap} {f c' : Addr} {q : Str} {params : Arguments} {body : Expr} {scope : Scope} {pm ctv : Value} (e : h.get? f = some (PySem.W.kla_obj "<lambda>" q params body scope [] pm c' ctv)) : ObjOk P w H h f (lamO f c' q params body scope) :=
  ⟨⟨pm, ctv, e⟩, ⟨_, e⟩, fun h1 h2 ⟨pm, ctv, e⟩ st => ⟨pm, ctv, st _ e⟩⟩
/-- the lambda is made -/
theorem lam_make3 {c P : Addr} {params : Arguments} {body : Expr} {scope : Scope} {pos : Pos} {E : Value → Shared → Prop} {Q : Value → Shared → Prop} (I : Inv X pins σ H s) (TB : TabB X.base X.mg c P) (hcode : X.env.code = .ref c)
    (hT : TabS H P (X.env.qual ++ "<lambda>")) (hdef : defaultsOf params X.env = ([], [])) (hfree : ∀ y ∈ scope.names, y.2 = .free → ∃ c, X.env.cells.lookup y.1 = some c) (hcl : cloFrom X.env.cells scope.names [] = [])
    (h : ∀ (f c' : Addr) (H1 : Hp) (s' : Shared), Inv X pins σ (upd H1 f (lamO f c' (X.env.qual ++ "<lambda>") params body scope)) s' → tabStep P (X.env.qual ++ "<lambda>") H H1 → H1 f = none → H1 c' = some (CodeO c' (X.env.qual ++ "<lambda>")) → Q (.ref f) s') :
    wpAny (model X.prog X.w) X.A (eval (.Lambda params body scope pos) X.env) Q E s := by
  obtain ⟨ps, hP, ht, ha⟩ := hT
  refine PySem.W.kla_eval hdef ?_
  have bP : s.heap.BuiltinsAt X.mg P := TB.bm.keeps I.bk
  have hP' : s.heap.get? P = some { cls := .none, data := .fields ps } := I.hok P _ hP
  cases hc : codeAmong pos ps.toList with
  | none =>
    refine PySem.W.kla_makeFunction (mg := X.mg) (c := c) (P := P) (ps := ps) (closure_ok hfree) I.ok.glob (I.mod.glob.keeps I.bk) hcode (TB.code.keeps I.bk) hP' ht hc TB.gP bP fun c' ctv h' tk hx hge hlt hrec htb => ?_
    rw [hcl]
    obtain ⟨c2, oc, vs, t, e2, hoc, hd, hv⟩ := hrec
    cases e2
    have nC : H c' = none := I.hok.fresh hge
    have I0 := inv_table (t' := tk) (more := #[rawInt pos.line, rawInt pos.col, .ref c']) (h' := h') I hP (fun b o hb e => hx b o hb e) htb hge ⟨oc, vs, t, hoc, hd, hv⟩
    have I1 := I0.laid (a := h'.objs.size) (o := lamO h'.objs.size c' (X.env.qual ++ "<lambda>") params body scope) (t' := tk) (h' := h'.push (PySem.W.kla_obj "<lambda>" (X.env.qual ++ "<lambda>") params body scope [] ((X.mg "__name__").getD .none) c' ctv)) (fun b u e => Heap.get?_push_of_some _ e) (Nat.le_refl _) (lamO_ok (Heap.get?_push_size _ rfl))
    have hE : ∀ b u, H b = some u → b ≠ P → upd (upd H P (.tbl (ps ++ #[rawInt pos.line, rawInt pos.col, .ref c']))) c' (CodeO c' (X.env.qual ++ "<lambda>")) b = some u := fun b u e n => by
      rw [upd_ne (ne_of_none e nC), upd_ne n]
      exact e
    have hsz : s.heap.objs.size ≤ h'.objs.size := Nat.le_trans hge (Nat.le_of_lt hlt)
    refine h h'.objs.size c' _ _ I1 ⟨hE, ps, _, hP, by rw [upd_ne (ne_of_none hP nC), upd_same], ?_, fun p' cv hcv => ?_⟩ ?_ upd_same
    · have eL : (ps ++ #[rawInt pos.line, rawInt pos.col, .ref c']).toList = ps.toList ++ [rawInt pos.line, rawInt pos.col, .ref c'] := by simp
      rw [eL]
      exact PySem.TriplesOk_snoc _ _ _ _ ht
    · have eL : (ps ++ #[rawInt pos.line, rawInt pos.col, .ref c']).toList = ps.toList ++ [rawInt pos.line, rawInt pos.col, .ref c'] := by simp
      rw [eL] at hcv
      rcases among_app _ ht hcv with z | z
      · obtain ⟨c0, e1, e2⟩ := ha p' cv z
        exact ⟨c0, e1, hE _ _ e2 (fun q => by rw [q, hP] at e2; exact codeO_ne ps (Option.some.inj e2).symm), .inr ⟨p', z⟩⟩
      · exact ⟨c', z, upd_same, .inl nC⟩
    · have n1 : h'.objs.size ≠ c' := Nat.ne_of_gt hlt
      have n2 : h'.objs.size ≠ P := Nat.ne_of_gt (Nat.lt_of_lt_of_le (Heap.lt_size hP') hsz)
      rw [upd_ne n1, upd_ne n2]
      exact I.hok.fresh hsz
  | some cv =>
    obtain ⟨c', e, hco⟩ := ha pos cv hc
    subst e
    refine PySem.W.kla_makeFunctionHit (mg := X.mg) (c := c) (P := P) (ps := ps) (closure_ok hfree) I.ok.glob (I.mod.glob.keeps I.bk) hcode (TB.code.keeps I.bk) hP' ht hc bP fun ctv h' tk hx hsz => ?_
    rw [hcl]
    have I1 := I.laid (a := h'.objs.size) (o := lamO h'.objs.size c' (X.env.qual ++ "<lambda>") params body scope) (t' := tk) (h' := h'.push (PySem.W.kla_obj "<lambda>" (X.env.qual ++ "<lambda>") params body scope [] ((X.mg "__name__").getD .none) c' ctv)) (fun b u e => Heap.get?_push_of_some _ (hx b u e)) hsz (lamO_ok (Heap.get?_push_size _ rfl))
    exact h h'.objs.size c' H _ I1 ⟨fun b u e _ => e, ps, ps, hP, hP, ht, fun p' cv hcv => by
      obtain ⟨c0, e1, e2⟩ := ha p' cv hcv
      exact ⟨c0, e1, e2, .inr ⟨p', hcv⟩⟩⟩ (I.hok.fresh hsz) hco
end
/-- the keys -/
def lenKey (x : Str) : PyData := .int (-(x.length : Int))
def sortK (xs : List Str) : List Str := xs.mergeSort (PySem.W.dataLe false lenKey)
/-- what the lambda is -/
structure LenLam (params : Arguments) (body : Expr) (scope : Scope) : Prop where
  ex : ∃ (x : Str) (p1 p2 p3 p4 : Pos), body = .UnaryOp .USub (.Call (.Name "len" p1) [.Name x p2] [] p3) p4 ∧ scope.names.lookup x = some .local ∧ (x == ("__debug__" : Str)) = false ∧
    ∀ (q : Str) (cl : List (Str × Addr)) (pm cv ctv v : Value), bindArgs (PySem.W.kla_fn "<lambda>" q params body scope cl pm cv ctv) ⟨[v], []⟩ = pure [(x, v)]
  len : scope.names.lookup ("len" : Str) = some .globalImplicit
  kind : scope.kind = .function
  co : scope.isCoroutine = false
  gen : scope.isGenerator = false
  cell : ∀ y ∈ scope.names, y.2 ≠ .cell
  free : ∀ y ∈ scope.names, y.2 ≠ .free
section
variable {prog : Program} {w : World} {A : Around} {s : Shared} {mg mb : Str → Option Value}
theorem lam_turn {params : Arguments} {body : Expr} {scope : Scope} {f c' : Addr} {q : Str} {pm ctv : Value} {h : Heap} {tk : Nat} {z : Str} {t : Tok} (L : LenLam params body scope) (hroom : A.depth < recursionLimit)
    (ho : h.get? f = some (PySem.W.kla_obj "<lambda>" q params body scope [] pm c' ctv)) (hcr : h.CodeRec (.ref c') q) (hns : h.Ns mainGlobals mg) (hm : mg "len" = none) (hbl : h.Ns builtinsNs mb) (hv : mb "len" = some (.builtin "len")) (hlim : h.NoLimit) (hz : z.length ≤ sizeLine) :
    wpAny (model prog w) A (call (.ref f) [.str z t]) (PySem.W.KeyPure (lenKey z) { s with heap := h, toks := tk }) (fun _ _ => False) { s with heap := h, toks := tk } := by
  obtain ⟨x, p1, p2, p3, p4, hb, hx, hdx, hbind⟩ := L.ex
  refine wpAny_call ?_
  refine PySem.W.kla_callFunE hroom ho rfl L.co L.gen rfl hcr ?_
  rw [hbind]
  refine wpAny_pure (wpAny_newFunctionEnv L.cell (fun y hy => ?_) (fun h₁ hns₁ hsb => ⟨hlim.fresh _ hsb, ?_⟩) L.kind)
  · rw [List.mem_singleton.mp hy]
    exact hx
  have kp : ∀ b o, h.get? b = some o → h₁.get? b = some o := fun b o e => hsb.extBut b o (Nat.ne_of_lt (Heap.lt_size e)) (Heap.get?_push_of_some _ e)
  rw [hb]
  refine PySem.W.kla_codeExpr ?_
  refine UnaryOp_ (wpAny_Call_Name_kw (Calls.Name_function_global L.kind L.len (Calls.loadGlobal_builtin (hns.keeps kp) hm (hbl.keeps kp) hv ?_)))
  refine PyProof.Rows.callWith_builtin1 (rest := []) ?_ rfl rfl
  refine Calls.spliced_cons (wpAny_Name (wpAny_loadName_local L.kind hx hns₁ (v := .str z t) ?_ (Calls.spliced_nil ?_)) hdx)
  · show ([(x, Value.str z t)] : List (Str × Value)).reverse.lookup x = _
    simp [List.lookup]
  refine len_str (by rw [sizeLine_eq] at hz; omega) ?_
  refine neg_int ?_
  exact ⟨h₁, _, rfl, kp, .int _ _⟩
end
section
variable {X : Cx} {T : List V}
/-- sorted(xs, key=f), f that lambda -/
def rSortLen (K : PySem.W.Frag) (q : Str) (params : Arguments) (body : Expr) (scope : Scope) : List V → List V → Hp → VK → Prop := fun vs zs H Q =>
  ∃ (a f c' : Addr) (xs : List Str), vs = [V.ref a] ∧ zs = [V.ref f] ∧ SqL K H a (xs.map V.str) ∧ (∀ x ∈ xs, x.length ≤ sizeLine) ∧ H f = some (lamO f c' q params body scope) ∧ H c' = some (CodeO c' q) ∧
    ∀ p : Addr, H p = none → Q (.ref p) (upd H p (.lst ((sortK xs).map V.str)))
theorem strs_each : ∀ {xs : List Str} {its : List Value}, Vals (xs.map V.str) its → PySem.W.EachIs (fun (v : Value) (x : Str) => ∃ t, v = .str x t) its xs := by
  intro xs
  induction xs with
  | nil => intro its h; cases h; exact .nil
  | cons x xs ih =>
    intro its h
    rw [List.map_cons] at h
    cases h with
    | cons h r => exact .cons h (ih r)
theorem each_strs : ∀ {xs : List Str} {its : List Value}, PySem.W.EachIs (fun (v : Value) (x : Str) => ∃ t, v = .str x t) its xs → Vals (xs.map V.str) its
  | [], _, .nil => .nil
  | x :: xs, _, .cons h r => .cons h (each_strs r)
theorem cr_sortLen {q : Str} {params : Arguments} {body : Expr} {scope : Scope} (L : LenLam params body scope) (hr : X.A.depth < recursionLimit) (hu : X.A.units + 64 < cLine) (hm : X.mg "len" = none) : CallRK X (.builtin "sorted") [Str.ofString "key"] (rSortLen X.K q params body scope) := by
  intro pins s σ H vs zs us ws Q I r rz h
  obtain ⟨a, f, c', xs, rfl, rfl, hs, hxs, hf, hc, qq⟩ := h
  obtain rfl := Vals.ref1 r
  obtain ⟨w1, rfl, e1⟩ := vals1 rz
  obtain rfl : w1 = Value.ref f := e1
  obtain ⟨its, rv, hl, hz⟩ := I.list hs
  obtain ⟨⟨pm, ctv, of⟩, _, _⟩ := I.hok f _ hf
  obtain ⟨⟨oc, vs', t, hoc, hdc, hvc⟩, _, _⟩ := I.hok c' _ hc
  obtain ⟨mb, hb1, hb2⟩ := I.mod.blt
  have hz' : xs.length ≤ sizeLine := by rw [List.length_map] at hz; exact hz
  refine PySem.W.sorted_key_data (b := false) (bs := xs) (R := fun v x => ∃ t, v = .str x t) lenKey hl.isList (strs_each rv) ?_ ?_ hz' ?_ (PyProof.Rows.ksk_s1 _ _) (fun x => PyProof.Rows.ksk_l1 _ _) (fun x => PyProof.Rows.ksk_t1 f x) ?_ ?_
  · intro d hd d' hd'
    obtain ⟨_, _, rfl⟩ := List.mem_map.mp hd
    obtain ⟨_, _, rfl⟩ := List.mem_map.mp hd'
    rfl
  · refine .inr fun d hd => ?_
    obtain ⟨_, _, rfl⟩ := List.mem_map.mp hd
    exact ⟨(fun z => nomatch z), fun xs z => nomatch z⟩
  · intro x _
    show X.A.units + 2 + (PyData.int _).depth < cLine
    have : (PyData.int (-(x.length : Int))).depth ≤ 1 := by simp [PyData.depth]
    omega
  · rintro v x ⟨t', rfl⟩ hx h tk kp
    exact lam_turn L hr (kp _ _ of) ⟨c', oc, vs', t, rfl, kp _ _ hoc, hdc, hvc⟩ ((I.mod.glob.keeps I.bk).keeps kp) hm ((hb1.keeps I.bk).keeps kp) ((hb2 "len" (by decide)).trans rfl) (I.nolimit.keeps kp) (hxs x hx)
  · intro out c h' tk kp fr hat hlen he
    have rv' := each_strs he
    have hl2 : (sortK xs).length = xs.length := by unfold sortK; exact List.length_mergeSort _
    exact ⟨.ref _, upd H (s.heap.objs.size + 1) (.lst ((sortK xs).map V.str)), I.laid (t' := tk) kp (Nat.le_succ _) ⟨by rw [List.length_map, hl2]; exact hz', out, c, rv', hat⟩, rfl, qq _ (I.hok.fresh (Nat.le_succ _))⟩
end
end BV
/-! The by-value calculus: what a state stands for; expressions and statements by their semantic functions. -/
namespace BV
open PySem L2

/-! ### the semantic side -/
/-- what a name holds: data; an own list, an own list of own lists, an own dict; a cell; the script -/
structure Exc where
  cls : Str
  fld : Option (Str × D)
inductive T where
  | val (d : D) | own (xs : List D) | own2 (xss : List (List D)) | ownd (q : Bool) (kvs : List (D × D)) | cel (n : Nat) | scr (ns : List Int) | exn (a C : Addr) (d : Option Addr) (e : Exc) | tree (d : D)
/-- what a cell holds -/
inductive Ce where
  | dead | lst (xs : List D) | dct (q : Bool) (kvs : List (D × D)) | tab
abbrev Sto := List Ce
abbrev En := List (Option T)
inductive R (α : Type) where
  | ok (a : α) (S : Sto) | exc (e : Exc) (S : Sto) | bad
inductive Fl where
  | nx (ρ : En) (S : Sto) | bk (ρ : En) (S : Sto) | ct (ρ : En) (S : Sto) | rt (t : T) (S : Sto) | ex (e : Exc) (ρ : En) (S : Sto) | bad
abbrev SE := En → Sto → R T
abbrev SS := En → Sto → Fl
abbrev Fn := List T → Sto → R T
/-- read as data -/
def asD : T → Option D
  | .val d => some d
  | .own xs => some (.list xs)
  | .own2 xss => some (.list (xss.map PyData.list))
  | .ownd q kvs => some (.dict (mkD q kvs))
  | .cel _ => none
  | .scr _ => none
  | .exn _ _ _ _ => none
  | .tree d => some d
/-- as an argument -/
def asA : T → T
  | .val d => .val d
  | .own xs => .val (.list xs)
  | .own2 xss => .val (.list (xss.map PyData.list))
  | .ownd q kvs => .val (.dict (mkD q kvs))
  | .cel n => .cel n
  | .scr ns => .scr ns
  | .exn a C d e => .exn a C d e
  | .tree d => .val d
def R.d (r : R T) (k : D → Sto → R T) : R T := match r with
  | .ok t S => (match asD t with | some d => k d S | none => .bad)
  | .exc e S => .exc e S
  | .bad => .bad
def R.t (r : R T) (k : T → Sto → R T) : R T := match r with
  | .ok t S => k t S
  | .exc e S => .exc e S
  | .bad => .bad
theorem R.d_okn {t : T} {S : Sto} {k : D → Sto → R T} (h : asD t = none) : R.d (.ok t S) k = .bad := by unfold R.d; simp only [h]
theorem R.d_oks {t : T} {S : Sto} {k : D → Sto → R T} {d : D} (h : asD t = some d) : R.d (.ok t S) k = k d S := by unfold R.d; simp only [h]
theorem R.d_val (d : D) (S : Sto) (k) : R.d (.ok (.val d) S) k = k d S := rfl
theorem R.d_own (xs : List D) (S : Sto) (k) : R.d (.ok (.own xs) S) k = k (.list xs) S := rfl
theorem R.d_own2 (xs : List (List D)) (S : Sto) (k) : R.d (.ok (.own2 xs) S) k = k (.list (xs.map PyData.list)) S := rfl
theorem R.d_ownd (q : Bool) (xs : List (D × D)) (S : Sto) (k) : R.d (.ok (.ownd q xs) S) k = k (.dict (mkD q xs)) S := rfl
theorem R.d_tree (d : D) (S : Sto) (k) : R.d (.ok (.tree d) S) k = k d S := rfl
theorem R.d_exc (e : Exc) (S : Sto) (k) : R.d (.exc e S) k = .exc e S := rfl
theorem R.d_bad (k) : R.d .bad k = .bad := rfl
theorem R.t_ok (t : T) (S : Sto) (k) : R.t (.ok t S) k = k t S := rfl
theorem R.t_exc (e : Exc) (S : Sto) (k) : R.t (.exc e S) k = .exc e S := rfl
theorem R.t_bad (k) : R.t .bad k = .bad := rfl

/-! ### what stands for what -/
abbrev Cs := List Addr
/-- an exception's value -/
def vE : D → Option V
  | .none => some .non
  | .int i => some (.int i)
  | _ => none
/-- what an exception keeps stands in its dict -/
def FldR (H : Hp) (d : Option Addr) (e : Exc) : Prop := match e.fld with
  | none => d = none
  | some (f, dv) => ∃ dd v, d = some dd ∧ vE dv = some v ∧ H dd = some (.xd [(f, v)])
theorem FldR.mono {H H' : Hp} {d : Option Addr} {e : Exc} (k : ∀ a fs, H a = some (.xd fs) → H' a = some (.xd fs)) (r : FldR H d e) : FldR H' d e := by
  unfold FldR at *
  split at r
  · exact r
  · obtain ⟨dd, v, e1, e2, e3⟩ := r
    exact ⟨dd, v, e1, e2, k _ _ e3⟩
theorem FldR.kept {o o' : Gh} {H H' : Hp} {d : Option Addr} {e : Exc} (tr : Trk o H) (k : Kept o H o' H') (r : FldR H d e) : FldR H' d e := r.mono fun a fs h => (k a _ h (tr.free h (fun z => z))).1
mutual
/-- v stands for d; every list of it is of w; as: their addresses -/
inductive RepW (K : PySem.W.Frag) (o : Gh) (w : Ow) (H : Hp) : V → D → List Addr → Prop
  | non : RepW K o w H .non .none []
  | bl (b : Bool) : RepW K o w H (.bl b) (.bool b) []
  | int (i : Int) : RepW K o w H (.int i) (.int i) []
  | str (x : Str) : PyData.strOk x = true → x.length ≤ sizeLine → RepW K o w H (.str x) (.str x) []
  | lst (a : Addr) (vs : List V) (ds : List D) (as : List Addr) : o a = some w → H a = some (.lst vs) → vs.length ≤ sizeLine → RepWs K o w H vs ds as → RepW K o w H (.ref a) (.list ds) (a :: as)
  | tup (a : Addr) (vs : List V) (ds : List D) (as : List Addr) : SqT K H a vs → vs.length ≤ sizeLine → RepWs K o w H vs ds as → RepW K o w H (.ref a) (.tuple ds) as
inductive RepWs (K : PySem.W.Frag) (o : Gh) (w : Ow) (H : Hp) : List V → List D → List Addr → Prop
  | nil : RepWs K o w H [] [] []
  | cons (v : V) (d : D) (vs : List V) (ds : List D) (as bs : List Addr) : RepW K o w H v d as → RepWs K o w H vs ds bs → RepWs K o w H (v :: vs) (d :: ds) (as ++ bs)
end
section
variable {K : PySem.W.Frag} {o o' : Gh} {H H' : Hp} {w w' : Ow}
mutual
/-- its lists stay, perhaps of another owner; tuples stay -/
theorem RepW.move (hl : ∀ a u, H a = some u → o a = some w → H' a = some u ∧ o' a = some w') (ht : ∀ a vs, SqT K H a vs → SqT K H' a vs) : ∀ {v : V} {d : D} {as : List Addr}, RepW K o w H v d as → RepW K o' w' H' v d as
  | _, _, _, .non => .non
  | _, _, _, .bl b => .bl b
  | _, _, _, .int i => .int i
  | _, _, _, .str x h1 h2 => .str x h1 h2
  | _, _, _, .lst a vs ds as h1 h2 h3 h4 => .lst a vs ds as (hl a _ h2 h1).2 (hl a _ h2 h1).1 h3 (RepWs.move hl ht h4)
  | _, _, _, .tup a vs ds as h1 h2 h3 => .tup a vs ds as (ht a _ h1) h2 (RepWs.move hl ht h3)
theorem RepWs.move (hl : ∀ a u, H a = some u → o a = some w → H' a = some u ∧ o' a = some w') (ht : ∀ a vs, SqT K H a vs → SqT K H' a vs) : ∀ {vs : List V} {ds : List D} {as : List Addr}, RepWs K o w H vs ds as → RepWs K o' w' H' vs ds as
  | _, _, _, .nil => .nil
  | _, _, _, .cons v d vs ds as bs h1 h2 => .cons v d vs ds as bs (RepW.move hl ht h1) (RepWs.move hl ht h2)
end
mutual
/-- its owner let go -/
theorem RepW.rep (hn : ∀ a, o a = some w → o' a = none) : ∀ {v : V} {d : D} {as : List Addr}, RepW K o w H v d as → Rep K o' H v d
  | _, _, _, .non => .non
  | _, _, _, .bl b => .bl b
  | _, _, _, .int i => .int i
  | _, _, _, .str x h1 h2 => .str x h1 h2
  | _, _, _, .lst a vs ds as h1 h2 h3 h4 => .lst a vs ds h2 (hn a h1) h3 (RepWs.rep hn h4)
  | _, _, _, .tup a vs ds as h1 h2 h3 => .tup a vs ds h1 h2 (RepWs.rep hn h3)
theorem RepWs.rep (hn : ∀ a, o a = some w → o' a = none) : ∀ {vs : List V} {ds : List D} {as : List Addr}, RepWs K o w H vs ds as → RepAll K o' H vs ds
  | _, _, _, .nil => .nil
  | _, _, _, .cons v d vs ds as bs h1 h2 => .cons v d vs ds (RepW.rep hn h1) (RepWs.rep hn h2)
end
end
def RepT (K : PySem.W.Frag) (o : Gh) (c : Cs) (H : Hp) (w : Ow) (v : V) : T → Prop
  | .val d => Rep K o H v d
  | .own xs => ∃ a vs, v = .ref a ∧ o a = some w ∧ H a = some (.lst vs) ∧ vs.length ≤ sizeLine ∧ RepAll K o H vs xs
  | .own2 xss => ∃ (a : Addr) (as : List Addr), v = .ref a ∧ o a = some w ∧ H a = some (.lst (as.map V.ref)) ∧ (a :: as).Nodup ∧ as.length ≤ sizeLine ∧ as.length = xss.length ∧
      ∀ (i : Nat) (b : Addr) (xs : List D), as[i]? = some b → xss[i]? = some xs → o b = some w ∧ ∃ vs, H b = some (.lst vs) ∧ vs.length ≤ sizeLine ∧ RepAll K o H vs xs
  | .ownd q kvs => ∃ a ks vs ds, v = .ref a ∧ o a = some w ∧ DAtW K q H a ks vs ∧ vs.length ≤ sizeLine ∧ ks.length = vs.length ∧ RepAll K o H vs ds ∧ kvs = ks.zip ds
  | .cel n => ∃ a, c[n]? = some a ∧ v = .ref a
  | .scr ns => ∃ a, v = .ref a ∧ ns.length ≤ sizeLine ∧ ((∃ ob, H a = some (.frz ob (.lst (ns.map V.int)))) ∨ (H a = some (.lst (ns.map V.int)) ∧ o a = none) ∨
      ∃ (ob : Obj) (its : Array Value) (n : Nat), K.lookup a = some ob ∧ ob.cls = .type "list" ∧ ob.dict = none ∧ ob.data = .seq its n ∧ its.size ≤ sizeLine ∧ Vals (ns.map V.int) its.toList)
  | .exn a C d e => v = .ref a ∧ PySem.W.nsIn K mainGlobals e.cls = some (some (.ref C)) ∧ FldR H d e
  | .tree d => ∃ as, RepW K o w H v d as ∧ as.Nodup
/-- the table of named's code objects; what its lambda is called -/
def tabA (K : PySem.W.Frag) : Addr := (He.cT K ("named", none)).2
def lamQ : Str := "named.<locals>.<lambda>"
def CellR (K : PySem.W.Frag) (o : Gh) (H : Hp) (n : Nat) (a : Addr) : Ce → Prop
  | .dead => True
  | .lst xs => o a = some (.cell n) ∧ ∃ vs, H a = some (.lst vs) ∧ vs.length ≤ sizeLine ∧ RepAll K o H vs xs
  | .dct q kvs => o a = some (.cell n) ∧ ∃ ks vs ds, DAtW K q H a ks vs ∧ vs.length ≤ sizeLine ∧ ks.length = vs.length ∧ RepAll K o H vs ds ∧ kvs = ks.zip ds
  | .tab => a = tabA K ∧ o a = some (.cell n) ∧ ∃ ps : Array Value, H a = some (.tbl ps) ∧ TriplesOk ps.toList ∧ ∀ (pos : Pos) (cv : Value), codeAmong pos ps.toList = some cv → ∃ b, cv = .ref b ∧ H b = some (LamX.CodeO b lamQ) ∧ o b = some (.cell n)
/-- the cells -/
structure CS (K : PySem.W.Frag) (o : Gh) (c : Cs) (S : Sto) (H : Hp) : Prop where
  clen : c.length = S.length
  cell : ∀ n a k, c[n]? = some a → S[n]? = some k → CellR K o H n a k
  trk : Trk o H
structure RS (K : PySem.W.Frag) (o : Gh) (c : Cs) (ρ : En) (S : Sto) (σ : L2.St) (H : Hp) : Prop where
  len : ρ.length = σ.length
  slot : ∀ i t, ρ[i]? = some (some t) → ∃ v, σ[i]? = some (some v) ∧ RepT K o c H (.slot i) v t
  cs : CS K o c S H
def NT (o : Gh) : Prop := ∀ a, o a ≠ some .tmp
def isCell : Ow → Prop
  | .cell _ => True
  | _ => False
def isVol : Ow → Prop
  | .prot => False
  | _ => True
structure Step (vol : Ow → Prop) (o : Gh) (c : Cs) (H : Hp) (o' : Gh) (c' : Cs) (H' : Hp) : Prop where
  keep : ∀ a u, H a = some u → (∀ w, o a = some w → ¬ vol w) → H' a = some u
  own : ∀ a w, o a = some w → ¬ vol w → o' a = some w
  new : ∀ a, o a = none → o' a ≠ none → H a = none
  pre : c <+: c'
section
variable {K : PySem.W.Frag} {o o1 o2 o' : Gh} {c c1 c2 c' : Cs} {H H1 H2 H' : Hp} {vol : Ow → Prop} {ρ : En} {S : Sto} {σ : L2.St} {v : V} {t : T} {w : Ow}
theorem Step.refl : Step vol o c H o c H := ⟨fun _ _ h _ => h, fun _ _ h _ => h, fun _ h h' => absurd h h', List.prefix_refl c⟩
theorem Step.trans (a : Step vol o c H o1 c1 H1) (b : Step vol o1 c1 H1 o2 c2 H2) : Step vol o c H o2 c2 H2 where
  keep := fun x u e n => by
    refine b.keep x u (a.keep x u e n) fun w hw hv => ?_
    cases q : o x with
    | none =>
      have := a.new x q (by rw [hw]; simp)
      rw [this] at e; cases e
    | some w' =>
      have h' := a.own x w' q (n w' q)
      rw [hw] at h'; cases h'
      exact n w q hv
  own := fun x w e n => b.own x w (a.own x w e n) n
  new := fun x e n => by
    cases q : o1 x with
    | none =>
      have h2 := b.new x q n
      cases r : H x with
      | none => rfl
      | some u =>
        have := a.keep x u r (fun w hw => by rw [e] at hw; cases hw)
        rw [h2] at this; cases this
    | some w' => exact a.new x e (by rw [q]; simp)
  pre := a.pre.trans b.pre
theorem Step.weak (a : Step isCell o c H o1 c1 H1) : Step isVol o c H o1 c1 H1 where
  keep := fun x u e n => a.keep x u e fun w hw hv => n w hw (by cases w <;> first | exact trivial | exact hv.elim)
  own := fun x w e n => a.own x w e fun hv => n (by cases w <;> first | exact trivial | exact hv.elim)
  new := a.new
  pre := a.pre
theorem Step.kept (a : Step vol o c H o1 c1 H1) : Kept o H o1 H1 := fun x u e n => by
  have h1 := a.keep x u e (fun w hw => by rw [n] at hw; cases hw)
  refine ⟨h1, ?_⟩
  cases q : o1 x with
  | none => rfl
  | some w' =>
    have := a.new x n (by rw [q]; simp)
    rw [this] at e; cases e
theorem pre_get {c c' : Cs} (h : c <+: c') {n : Nat} {a : Addr} (e : c[n]? = some a) : c'[n]? = some a := by
  obtain ⟨r, rfl⟩ := h
  have hl := (List.getElem?_eq_some_iff.mp e).1
  rw [List.getElem?_append_left hl]
  exact e
theorem Rep.step (tr : Trk o H) (a : Step vol o c H o1 c1 H1) {d : D} (r : Rep K o H v d) : Rep K o1 H1 v d := r.kept tr a.kept
theorem RepAll.step (tr : Trk o H) (a : Step vol o c H o1 c1 H1) {vs : List V} {ds : List D} (r : RepAll K o H vs ds) : RepAll K o1 H1 vs ds := r.kept tr a.kept
/-- what is not volatile stays -/
theorem RepT.step (tr : Trk o H) (a : Step vol o c H o1 c1 H1) (hw : ¬ vol w) (r : RepT K o c H w v t) : RepT K o1 c1 H1 w v t := by
  have kp : ∀ x u, H x = some u → o x = some w → H1 x = some u := fun x u e q => a.keep x u e fun w' q' => by
    rw [q] at q'; cases q'; exact hw
  cases t with
  | val d => exact Rep.step tr a r
  | own xs =>
    obtain ⟨x, vs, e, q, h, z, ra⟩ := r
    exact ⟨x, vs, e, a.own _ _ q hw, kp _ _ h q, z, ra.step tr a⟩
  | own2 xss =>
    obtain ⟨x, as, e, q, h, nd, z, le, f⟩ := r
    refine ⟨x, as, e, a.own _ _ q hw, kp _ _ h q, nd, z, le, fun i b xs e1 e2 => ?_⟩
    obtain ⟨q', vs, h', z', ra⟩ := f i b xs e1 e2
    exact ⟨a.own _ _ q' hw, vs, kp _ _ h' q', z', ra.step tr a⟩
  | ownd tk kvs =>
    obtain ⟨x, ks, vs, ds, e, q, h, z, z2, ra, e'⟩ := r
    exact ⟨x, ks, vs, ds, e, a.own _ _ q hw, h.kept (fun u hu => kp _ _ hu q) (fun b us zz => SqT.kept tr a.kept zz), z, z2, ra.step tr a, e'⟩
  | cel n =>
    obtain ⟨x, e, q⟩ := r
    exact ⟨x, pre_get a.pre e, q⟩
  | scr ns =>
    obtain ⟨x, e, z, h⟩ := r
    refine ⟨x, e, z, ?_⟩
    rcases h with ⟨ob, h⟩ | ⟨h, n⟩ | h
    · exact .inl ⟨ob, (a.kept _ _ h (tr.free h (fun z => z))).1⟩
    · exact .inr (.inl (a.kept _ _ h n))
    · exact .inr (.inr h)
  | exn x C d e => exact ⟨r.1, r.2.1, r.2.2.kept tr a.kept⟩
  | tree d =>
    obtain ⟨as, r, nd⟩ := r
    exact ⟨as, r.move (fun x u e q => ⟨kp _ _ e q, a.own _ _ q hw⟩) (fun b us z => SqT.kept tr a.kept z), nd⟩
/-- the names of a frame behind an expression -/
theorem RS.step {S' : Sto} (r : RS K o c ρ S σ H) (a : Step isCell o c H o1 c1 H1) (q : CS K o1 c1 S' H1) : RS K o1 c1 ρ S' σ H1 :=
  ⟨r.len, fun i t e => by
    obtain ⟨v, e1, e2⟩ := r.slot i t e
    exact ⟨v, e1, e2.step r.cs.trk a (fun z => z)⟩, q⟩

/-! ### temporary owners -/
/-- owners forgotten where p holds -/
def dropO (p : Ow → Bool) (o : Gh) : Gh := fun a => match o a with
  | some w => if p w then none else some w
  | none => none
theorem dropO_none {p : Ow → Bool} {a : Addr} (h : o a = none) : dropO p o a = none := by unfold dropO; rw [h]
theorem dropO_some {p : Ow → Bool} {a : Addr} {w : Ow} (h : o a = some w) (n : p w = false) : dropO p o a = some w := by unfold dropO; rw [h]; simp [n]
theorem dropO_of {p : Ow → Bool} {a : Addr} {w : Ow} (h : dropO p o a = some w) : o a = some w ∧ p w = false := by
  unfold dropO at h
  split at h
  · rename_i w' e
    split at h
    · cases h
    · cases h
      exact ⟨e, by simpa using ‹¬ p _ = true›⟩
  · cases h
theorem dropO_ne {p : Ow → Bool} {a : Addr} (h : dropO p o a ≠ none) : o a ≠ none := by
  intro e
  exact h (dropO_none e)
theorem drop_kept {p : Ow → Bool} : Kept o H (dropO p o) H := fun a u e n => ⟨e, dropO_none n⟩
theorem Trk.drop {p : Ow → Bool} (tr : Trk o H) : Trk (dropO p o) H := fun a h => tr a (dropO_ne h)
theorem RepT.drop {p : Ow → Bool} (tr : Trk o H) (n : p w = false) (r : RepT K o c H w v t) : RepT K (dropO p o) c H w v t := by
  cases t with
  | val d => exact Rep.kept tr drop_kept r
  | own xs =>
    obtain ⟨x, vs, e, q, h, z, ra⟩ := r
    exact ⟨x, vs, e, dropO_some q n, h, z, ra.kept tr drop_kept⟩
  | own2 xss =>
    obtain ⟨x, as, e, q, h, nd, z, le, f⟩ := r
    refine ⟨x, as, e, dropO_some q n, h, nd, z, le, fun i b xs e1 e2 => ?_⟩
    obtain ⟨q', vs, h', z', ra⟩ := f i b xs e1 e2
    exact ⟨dropO_some q' n, vs, h', z', ra.kept tr drop_kept⟩
  | ownd tk kvs =>
    obtain ⟨x, ks, vs, ds, e, q, h, z, z2, ra, e'⟩ := r
    exact ⟨x, ks, vs, ds, e, dropO_some q n, h, z, z2, ra.kept tr drop_kept, e'⟩
  | cel n => exact r
  | scr ns =>
    obtain ⟨x, e, z, h⟩ := r
    refine ⟨x, e, z, ?_⟩
    rcases h with h | ⟨h, n⟩ | h
    · exact .inl h
    · exact .inr (.inl ⟨h, dropO_none n⟩)
    · exact .inr (.inr h)
  | exn x C d e => exact r
  | tree d =>
    obtain ⟨as, r, nd⟩ := r
    exact ⟨as, r.move (fun x u e q => ⟨e, dropO_some q n⟩) (fun _ _ z => z), nd⟩
theorem CS.drop {p : Ow → Bool} (n : ∀ i, p (.cell i) = false) (r : CS K o c S H) : CS K (dropO p o) c S H :=
  ⟨r.clen, fun i a k e1 e2 => by
    have q := r.cell i a k e1 e2
    cases k with
    | dead => trivial
    | lst xs =>
      obtain ⟨q1, vs, q2, q3, q4⟩ := q
      exact ⟨dropO_some q1 (n i), vs, q2, q3, q4.kept r.trk drop_kept⟩
    | dct tk kvs =>
      obtain ⟨q1, ks, vs, ds, q2, q3, q5, q4, q6⟩ := q
      exact ⟨dropO_some q1 (n i), ks, vs, ds, q2, q3, q5, q4.kept r.trk drop_kept, q6⟩
    | tab =>
      obtain ⟨q0, q1, ps, q2, q3, q4⟩ := q
      exact ⟨q0, dropO_some q1 (n i), ps, q2, q3, fun pos cv e => by
        obtain ⟨b, e1, e2, e3⟩ := q4 pos cv e
        exact ⟨b, e1, e2, dropO_some e3 (n i)⟩⟩, r.trk.drop⟩
def isTmp : Ow → Bool
  | .tmp => true
  | _ => false
abbrev unT (o : Gh) : Gh := dropO isTmp o
theorem unT_nt : NT (unT o) := fun a h => by
  have := (dropO_of h).2
  simp [isTmp] at this
theorem RS.untmp (r : RS K o c ρ S σ H) : RS K (unT o) c ρ S σ H :=
  ⟨r.len, fun i t e => by
    obtain ⟨v, e1, e2⟩ := r.slot i t e
    exact ⟨v, e1, e2.drop r.cs.trk rfl⟩, r.cs.drop fun _ => rfl⟩
theorem Step.untmp (nt : NT o) (a : Step vol o c H o1 c1 H1) : Step vol o c H (unT o1) c1 H1 where
  keep := a.keep
  own := fun x w e n => dropO_some (a.own x w e n) (by cases w <;> first | rfl | exact absurd e (nt x))
  new := fun x e n => a.new x e (dropO_ne n)
  pre := a.pre
/-- an own value, read as data: its owner is forgotten -/
theorem RepT.toD {d : D} (tr : Trk o H) (r : RepT K o c H .tmp v t) (e : asD t = some d) : Rep K (unT o) H v d := by
  have un : ∀ a, o a = some .tmp → unT o a = none := fun a h => by unfold unT dropO; rw [h]; rfl
  cases t with
  | val d' => cases e; exact Rep.kept tr drop_kept r
  | own xs =>
    cases e
    obtain ⟨x, vs, rfl, q, h, z, ra⟩ := r
    exact .lst x vs _ h (un _ q) z (ra.kept tr drop_kept)
  | own2 xss =>
    cases e
    obtain ⟨x, as, rfl, q, h, nd, z, le, f⟩ := r
    refine .lst x _ _ h (un _ q) (by rw [List.length_map]; exact z) ?_
    clear h nd z q
    induction as generalizing xss with
    | nil =>
      cases xss with
      | nil => exact .nil
      | cons _ _ => simp at le
    | cons b as ih =>
      cases xss with
      | nil => simp at le
      | cons xs xss =>
        obtain ⟨q', vs, h', z', ra⟩ := f 0 b xs rfl rfl
        refine .cons _ _ _ _ (.lst b vs xs h' (un _ q') z' (ra.kept tr drop_kept)) (ih xss (by simpa using le) fun i b' xs' e1 e2 => f (i + 1) b' xs' (by simpa using e1) (by simpa using e2))
  | ownd tk kvs =>
    cases e
    obtain ⟨x, ks, vs, ds, rfl, q, h, z, z2, ra, rfl⟩ := r
    exact .dct tk x ks vs ds _ h.r (un _ q) z z2 (ra.kept tr drop_kept) rfl
  | cel n => cases e
  | scr ns => cases e
  | exn _ _ _ _ => cases e
  | tree d' =>
    cases e
    obtain ⟨as, r, nd⟩ := r
    exact r.rep un
/-- as an argument -/
theorem RepT.toA (tr : Trk o H) (r : RepT K o c H .tmp v t) : RepT K (unT o) c H w v (asA t) := by
  cases t with
  | val d' => exact RepT.toD (t := .val d') tr r rfl
  | own xs => exact RepT.toD (t := .own xs) tr r rfl
  | own2 xss => exact RepT.toD (t := .own2 xss) tr r rfl
  | ownd q kvs => exact RepT.toD (t := .ownd q kvs) tr r rfl
  | cel n => exact r
  | scr ns => exact RepT.drop (c := c) (w := .prot) (t := .scr ns) tr rfl r
  | exn _ _ _ _ => exact r
  | tree d => exact RepT.toD (t := .tree d) tr r rfl
end
end BV
/-! The by-value calculus: judgements of expressions, argument lists, statements. -/
namespace BV
open PySem L2

/-- the exception that a suite holds: its object, its class, its dict -/
structure HotX where
  a : Addr
  C : Addr
  d : Option Addr
/-- what is kept of an exception's object: its context is None (true), or any (false) -/
def Zg : Bool → Value → Option Addr → Obj → Prop
  | true => L2N.Zn
  | false => Zc
theorem Zg.zc {cn : Bool} {cls : Value} {d : Option Addr} {o : Obj} (h : Zg cn cls d o) : Zc cls d o := by
  cases cn with
  | true => exact L2N.Zn.zc h
  | false => exact h
theorem Zg.steady {cn : Bool} {cls : Value} {d : Option Addr} : PXN.Steady1 (Zg cn cls d) := by
  cases cn with
  | true => exact L2N.Zn.steady
  | false => exact fun o v h => Zc.steady o _ h
/-- an exception in the air -/
def XEg (cn : Bool) (X : Cx) (W : WX) (u : Value) (t : Shared) : Prop :=
  ∃ (a : Addr) (B : Heap) (sI : Shared) (pins : List (Addr × Obj)) (σ : L2.St) (H : Hp) (cls : Value) (d : Option Addr), u = .ref a ∧ Inv X pins σ H sI ∧ (∀ b o, sI.heap.get? b = some o → b ∉ frs X.stack → B.get? b = some o) ∧
    sI.heap.UpToSlots t.heap ∧ Sky B X.stack a (Zg cn cls d) X.env.locals t.heap ∧ H a = none ∧ t.os = sI.os ∧ PyProof.Rows.AllBare t.gens ∧ W cls d σ H
def Tk (cn : Bool) (X : Cx) (W : WX) : Prop := ∀ u t, XEg cn X W u t → X.xe u t
abbrev CXg : Bool → Program → World → CXT
  | true, P, w => L2N.CX P w
  | false, P, w => L2.CX P w
theorem sky_imp {B : Heap} {l : List PySem.Env} {a : Addr} {Z Z' : Obj → Prop} {L : Addr} {h : Heap} (z : ∀ o, Z o → Z' o) (x : Sky B l a Z L h) : Sky B l a Z' L h := by
  have tz : ∀ {fl : Value}, HandSPX.TracedZ h B a Z fl → HandSPX.TracedZ h B a Z' fl := fun ⟨oe, vs, T, oT, ts, he, hz, r⟩ => ⟨oe, vs, T, oT, ts, he, z _ hz, r⟩
  rcases x with ⟨h1, h2, h3, oe, vs, h4, h5, r⟩ | ⟨h1, h2, h3, h4⟩ | ⟨h1, h2, h3, h4⟩
  · exact .inl ⟨h1, h2, h3, oe, vs, h4, z _ h5, r⟩
  · exact .inr (.inl ⟨h1, h2, h3, tz h4⟩)
  · exact .inr (.inr ⟨h1, h2, h3, tz h4⟩)
theorem Tk.any {cn : Bool} {X : Cx} {W : WX} (t : Tk false X W) : Tk cn X W := fun u s ⟨a, B, sI, pins, σ, H, cls, d, e, I, nb, up, sky, na, os, ag, w⟩ =>
  t u s ⟨a, B, sI, pins, σ, H, cls, d, e, I, nb, up, sky_imp (fun _ z => z.zc) sky, na, os, ag, w⟩
theorem Tk.n {cn : Bool} {X : Cx} {W : WX} (t : Tk cn X W) : L2N.Takes X W := by
  cases cn with
  | true => exact t
  | false => exact t.any (cn := true)
theorem Tk.no {cn : Bool} {X : Cx} : Tk cn X (fun _ _ _ _ => False) := fun _ _ ⟨_, _, _, _, _, _, _, _, _, _, _, _, _, _, _, _, q⟩ => q.elim
theorem tk_pass {cn : Bool} {X : Cx} {W : WX} (tk : Tk cn X W) (σ : L2.St) : PassesAt (CXg cn X.prog X.w) X σ (WE W σ) := by
  cases cn with
  | true => exact L2N.passAt (show L2N.Takes X W from tk) σ
  | false => exact L2.passAt (show L2.Takes X W from tk) σ
/-- p's object is the exception that is handled -/
def Hot0 (A : Around) (p : Addr × Obj) : Prop := A.handled = some (.ref p.1) ∧ ∃ vs : Array Value, p.2.data = .fields vs
/-- what is fixed in a body: the text's names and scope, the written part, how deep a call may go -/
structure Cc where
  P : Program
  w : World
  K : PySem.W.Frag
  mg : Str → Option Value
  base : Heap
  N : List Str
  sc : Scope
  fn : Str → Bool
  k : Nat
  top : Bool
  hot : Option HotX
  cn : Bool
  raw : Bool
  cod : Option (Addr × Str)
/-- the block of a comprehension -/
abbrev Cc.blk (G : Cc) (scope : Scope) : Cc := { G with sc := relS scope G.sc, fn := fun x => scope.names.lookup x == some .cell, top := false, raw := false, cod := none }
structure Cc.Ok (G : Cc) (X : Cx) (W : WX) : Prop where
  P : X.prog = G.P
  w : X.w = G.w
  K : X.K = G.K
  mg : X.mg = G.mg
  base : X.base = G.base
  N : X.N = G.N
  sc : X.env.scope = G.sc
  fn : X.fn = G.fn
  calm : G.hot = none → X.calm = true
  room : L2H.RoomH G.k X.A
  tk : Tk G.cn X W
  po : PassesOwn (model X.prog X.w) X.A X.env X.xe
  hd : G.hot = none → X.A.handled = none
  top : G.top = true → X.stack = X.env :: X.outer ∧ X.env.frame = some X.env.locals
  held : ∀ h, G.hot = some h → ∃ oe : Obj, Hot0 X.A (h.a, oe) ∧ (h.a, oe) ∈ X.pn ∧ Zc (.ref h.C) h.d oe ∧ ∃ vs, oe.data = .fields vs
  pat : G.raw = true → ∀ hd : Option Value, PassesOwnAt (model X.prog X.w) (X.A.mark hd) X.A X.env X.xe
  cod : ∀ c q, G.cod = some (c, q) → X.env.code = .ref c ∧ X.env.qual = q
theorem Cc.Ok.units {G : Cc} {X : Cx} {W : WX} (k : G.Ok X W) : X.A.units + 64 < cLine := by have := k.room.un; omega
theorem Cc.Ok.room0 {G : Cc} {X : Cx} {W : WX} (k : G.Ok X W) (hc : G.hot = none) : Room G.k X.A := ⟨k.hd hc, k.room.dp, k.room.un⟩
def ExcR (mg : Str → Option Value) (H : Hp) (cls : Value) (d : Option Addr) (e : Exc) : Prop :=
  ∃ C, cls = .ref C ∧ mg e.cls = some (.ref C) ∧ match e.fld with
    | none => d = none
    | some (f, dv) => ∃ dd v, d = some dd ∧ vE dv = some v ∧ H dd = some (.xd [(f, v)])
/-- what is wanted behind an expression -/
def PostE (G : Cc) (W : WX) (o : Gh) (c : Cs) (ρ : En) (σ : L2.St) (H : Hp) (r : R T) (Q : VK) : Prop := match r with
  | .ok t S' => ∀ v o' c' H', Step isCell o c H o' c' H' → RS G.K o' c' ρ S' σ H' → RepT G.K o' c' H' .tmp v t → Q v H'
  | .exc e S' => ∀ cls d o' c' H', Step isCell o c H o' c' H' → RS G.K o' c' ρ S' σ H' → NT o' → ExcR G.mg H' cls d e → W cls d σ H'
  | .bad => False
/-- a reading does what the semantic function says -/
def ER (G : Cc) (W : WX) (t : TE) (f : SE) : Prop := ∀ (σ : L2.St) (H : Hp) (ρ : En) (S : Sto) (o : Gh) (c : Cs) (Q : VK), NT o → RS G.K o c ρ S σ H → PostE G W o c ρ σ H (f ρ S) Q → t σ H Q
def EV (G : Cc) (e : Expr) (f : SE) : Prop := ∃ t : WX → TE, (∀ X W, G.Ok X W → PE X e (t W)) ∧ ∀ W, ER G W (t W) f
section
variable {G : Cc} {W : WX} {o o1 : Gh} {c c1 : Cs} {ρ : En} {σ : L2.St} {H H1 : Hp} {r : R T} {Q : VK} {e : Expr} {f g : SE} {t : TE}
theorem PostE.step (a : Step isCell o c H o1 c1 H1) (h : PostE G W o c ρ σ H r Q) : PostE G W o1 c1 ρ σ H1 r Q := by
  cases r with
  | ok t S' => exact fun v o' c' H' s => h v o' c' H' (a.trans s)
  | exc e S' => exact fun cls d o' c' H' s => h cls d o' c' H' (a.trans s)
  | bad => exact h
/-- a value's data, then the rest -/
theorem ER.d (h : ER G W t f) {S : Sto} {k : D → Sto → R T} {Q Q0 : VK} (nt : NT o) (rs : RS G.K o c ρ S σ H) (p : PostE G W o c ρ σ H (R.d (f ρ S) k) Q0)
    (q : ∀ d S1 v o1 c1 H1, Step isCell o c H o1 c1 H1 → NT o1 → RS G.K o1 c1 ρ S1 σ H1 → Rep G.K o1 H1 v d → PostE G W o1 c1 ρ σ H1 (k d S1) Q0 → Q v H1) : t σ H Q := by
  refine h σ H ρ S o c Q nt rs ?_
  cases e : f ρ S with
  | ok t S1 =>
    rw [e] at p
    intro v o' c' H' s rs' r'
    cases e2 : asD t with
    | none => exact False.elim (by rw [R.d_okn e2] at p; exact p)
    | some d =>
      have p' : PostE G W o c ρ σ H (k d S1) Q0 := by rw [R.d_oks e2] at p; exact p
      have s' := s.untmp nt
      exact q d S1 v _ c' H' s' unT_nt rs'.untmp (r'.toD rs'.cs.trk e2) (p'.step s')
  | exc e S1 => rw [e] at p; exact p
  | bad => rw [e] at p; exact p
/-- a value, then the rest (its owner is kept) -/
theorem ER.tv (h : ER G W t f) {S : Sto} {k : T → Sto → R T} {Q Q0 : VK} (nt : NT o) (rs : RS G.K o c ρ S σ H) (p : PostE G W o c ρ σ H (R.t (f ρ S) k) Q0)
    (q : ∀ t S1 v o1 c1 H1, Step isCell o c H o1 c1 H1 → RS G.K o1 c1 ρ S1 σ H1 → RepT G.K o1 c1 H1 .tmp v t → PostE G W o1 c1 ρ σ H1 (k t S1) Q0 → Q v H1) : t σ H Q := by
  refine h σ H ρ S o c Q nt rs ?_
  cases e : f ρ S with
  | ok t S1 =>
    rw [e] at p
    intro v o' c' H' s rs' r'
    have p' : PostE G W o c ρ σ H (k t S1) Q0 := p
    exact q t S1 v _ c' H' s rs' r' (p'.step s)
  | exc e S1 => rw [e] at p; exact p
  | bad => rw [e] at p; exact p
end

/-! ### operands: a name's own list may be read in place -/
inductive RepU (K : PySem.W.Frag) (o : Gh) (H : Hp) : V → D → Prop
  | of (v : V) (d : D) : Rep K o H v d → RepU K o H v d
  | lst (a : Addr) (vs : List V) (ds : List D) : H a = some (.lst vs) → (∀ w, o a = some w → ¬ isCell w) → vs.length ≤ sizeLine → RepAll K o H vs ds → RepU K o H (.ref a) (.list ds)
  | dct (q : Bool) (a : Addr) (ks : List D) (vs : List V) (ds : List D) (kvs : List (D × D)) : DAt K q H a ks vs → (∀ w, o a = some w → ¬ isCell w) → vs.length ≤ sizeLine → ks.length = vs.length → RepAll K o H vs ds → kvs = mkD q (ks.zip ds) → RepU K o H (.ref a) (.dict kvs)
section
variable {K : PySem.W.Frag} {o o1 : Gh} {c c1 : Cs} {H H1 : Hp} {v : V} {d : D}
theorem RepU.step (tr : Trk o H) (s : Step isCell o c H o1 c1 H1) (r : RepU K o H v d) : RepU K o1 H1 v d := by
  have kk : ∀ a u, H a = some u → (∀ w, o a = some w → ¬ isCell w) → ∀ w, o1 a = some w → ¬ isCell w := fun a u e n w hw => by
    cases q : o a with
    | none =>
      have := s.new a q (by rw [hw]; simp)
      rw [this] at e; cases e
    | some w' =>
      have := s.own a w' q (n w' q)
      rw [hw] at this; cases this
      exact n w q
  cases r with
  | of v d r => exact .of _ _ (r.step tr s)
  | lst a vs ds h1 h2 h3 h4 => exact .lst a vs ds (s.keep a _ h1 h2) (kk a _ h1 h2) h3 (h4.step tr s)
  | dct tk a ks vs ds kvs h1 h2 h3 h5 h4 e =>
    obtain ⟨u, hu, _⟩ := h1.is
    exact .dct tk a ks vs ds kvs (h1.kept (fun u hu => s.keep a u hu h2) fun b us z => SqT.kept tr s.kept z) (kk a u hu h2) h3 h5 (h4.step tr s) e
theorem RepU.nonV (h : RepU K o H v .none) : v = .non := by cases h with | of _ _ h => exact h.nonV
theorem RepU.blV {b : Bool} (h : RepU K o H v (.bool b)) : v = .bl b := by cases h with | of _ _ h => exact h.blV
theorem RepU.intV {i : Int} (h : RepU K o H v (.int i)) : v = .int i := by cases h with | of _ _ h => exact h.intV
theorem RepU.strV {x : Str} (h : RepU K o H v (.str x)) : v = .str x ∧ PyData.strOk x = true ∧ x.length ≤ sizeLine := by cases h with | of _ _ h => exact h.strV
theorem RepU.lstV {ds : List D} (h : RepU K o H v (.list ds)) : ∃ a vs, v = .ref a ∧ H a = some (.lst vs) ∧ (∀ w, o a = some w → ¬ isCell w) ∧ vs.length ≤ sizeLine ∧ RepAll K o H vs ds := by
  cases h with
  | of _ _ h =>
    obtain ⟨a, vs, e, h1, h2, h3, h4⟩ := h.lstV
    exact ⟨a, vs, e, h1, (fun w hw => by rw [h2] at hw; cases hw), h3, h4⟩
  | lst a vs ds h1 h2 h3 h4 => exact ⟨a, vs, rfl, h1, h2, h3, h4⟩
theorem RepU.tupV {ds : List D} (h : RepU K o H v (.tuple ds)) : ∃ a vs, v = .ref a ∧ SqT K H a vs ∧ vs.length ≤ sizeLine ∧ RepAll K o H vs ds := by cases h with | of _ _ h => exact h.tupV
theorem RepU.tupW {ds : List D} (h : RepU K o H v (.tuple ds)) : ∃ a vs, v = .ref a ∧ SqT K H a vs ∧ vs.length ≤ sizeLine ∧ RepAll K o H vs ds := by cases h with | of _ _ h => exact h.tupW
theorem RepU.dctV {kvs : List (D × D)} (h : RepU K o H v (.dict kvs)) : ∃ q a ks vs ds, v = .ref a ∧ DAt K q H a ks vs ∧ (∀ w, o a = some w → ¬ isCell w) ∧ vs.length ≤ sizeLine ∧ ks.length = vs.length ∧ RepAll K o H vs ds ∧ kvs = mkD q (ks.zip ds) := by
  cases h with
  | of _ _ h =>
    cases h with
    | dct tk a ks vs ds kvs h1 h2 h3 h5 h4 e => exact ⟨tk, a, ks, vs, ds, rfl, h1, (fun w hw => by rw [h2] at hw; cases hw), h3, h5, h4, e⟩
  | dct tk a ks vs ds kvs h1 h2 h3 h5 h4 e => exact ⟨tk, a, ks, vs, ds, rfl, h1, h2, h3, h5, h4, e⟩
theorem RepU.dp (h : RepU K o H v d) (n : noDict d = true) : Dp K H v d := by
  cases h with
  | of _ _ h => exact h.dp n
  | lst a vs ds h1 h2 h3 h4 => exact .lst (.of h1) (h4.dp n)
  | dct => exact nomatch n
theorem RepU.can (h : RepU K o H v d) (n : noDict d = true) : PyData.canLay0 d = true := by
  cases h with
  | of _ _ h => exact h.can n
  | lst a vs ds h1 h2 h3 h4 => exact h4.can n
  | dct => exact nomatch n
end
def PostU (G : Cc) (W : WX) (o : Gh) (c : Cs) (ρ : En) (σ : L2.St) (H : Hp) (r : R T) (Q : VK) : Prop := match r with
  | .ok t S' => ∃ d, asD t = some d ∧ ∀ v o' c' H', Step isCell o c H o' c' H' → NT o' → RS G.K o' c' ρ S' σ H' → RepU G.K o' H' v d → Q v H'
  | .exc e S' => ∀ cls d o' c' H', Step isCell o c H o' c' H' → RS G.K o' c' ρ S' σ H' → NT o' → ExcR G.mg H' cls d e → W cls d σ H'
  | .bad => False
def URd (G : Cc) (W : WX) (t : TE) (f : SE) : Prop := ∀ (σ : L2.St) (H : Hp) (ρ : En) (S : Sto) (o : Gh) (c : Cs) (Q : VK), NT o → RS G.K o c ρ S σ H → PostU G W o c ρ σ H (f ρ S) Q → t σ H Q
theorem URd.d {G : Cc} {W : WX} {o : Gh} {c : Cs} {ρ : En} {σ : L2.St} {H : Hp} {f : SE} {t : TE} (h : URd G W t f) {S : Sto} {k : D → Sto → R T} {Q Q0 : VK} (nt : NT o) (rs : RS G.K o c ρ S σ H) (p : PostE G W o c ρ σ H (R.d (f ρ S) k) Q0)
    (q : ∀ d S1 v o1 c1 H1, Step isCell o c H o1 c1 H1 → NT o1 → RS G.K o1 c1 ρ S1 σ H1 → RepU G.K o1 H1 v d → PostE G W o1 c1 ρ σ H1 (k d S1) Q0 → Q v H1) : t σ H Q := by
  refine h σ H ρ S o c Q nt rs ?_
  cases e : f ρ S with
  | ok t S1 =>
    rw [e] at p
    cases e2 : asD t with
    | none => rw [R.d_okn e2] at p; exact p.elim
    | some d =>
      rw [R.d_oks e2] at p
      exact ⟨d, e2, fun v o' c' H' s nt' rs' r' => q d S1 v o' c' H' s nt' rs' r' (p.step s)⟩
  | exc e S1 => rw [e] at p; exact p
  | bad => rw [e] at p; exact p
/-- an operand -/
def UV (G : Cc) (e : Expr) (f : SE) : Prop := ∃ t : WX → TE, (∀ X W, G.Ok X W → PE X e (t W)) ∧ ∀ W, URd G W (t W) f
theorem EV.u {G : Cc} {e : Expr} {f : SE} (h : EV G e f) : UV G e f := by
  obtain ⟨t, p, q⟩ := h
  refine ⟨t, p, fun W σ H ρ S o c Q nt rs ps => q W σ H ρ S o c Q nt rs ?_⟩
  cases e : f ρ S with
  | ok t S1 =>
    rw [e] at ps
    obtain ⟨d, e1, h⟩ := ps
    exact fun v o' c' H' s rs' r' => h v _ c' H' (s.untmp nt) unT_nt rs'.untmp (.of _ _ (r'.toD rs'.cs.trk e1))
  | exc e S1 => rw [e] at ps; exact ps
  | bad => rw [e] at ps; exact ps

/-! ### a new object -/
def mkO (o : Gh) (a : Addr) (w : Ow) : Gh := fun b => if b = a then some w else o b
theorem mkO_same {o : Gh} {a : Addr} {w : Ow} : mkO o a w a = some w := by unfold mkO; rw [if_pos rfl]
theorem mkO_ne {o : Gh} {a b : Addr} {w : Ow} (h : b ≠ a) : mkO o a w b = o b := by unfold mkO; rw [if_neg h]
section
variable {K : PySem.W.Frag} {o : Gh} {c : Cs} {H : Hp} {vol : Ow → Prop} {ρ : En} {S : Sto} {σ : L2.St} {v : V} {t : T} {w : Ow} {p : Addr} {u : HO}
/-- an object laid, not owned -/
theorem Step.laid (n : H p = none) : Step vol o c H o c (upd H p u) where
  keep := fun a x e _ => by rw [upd_ne (ne_of_none e n)]; exact e
  own := fun _ _ e _ => e
  new := fun _ e e' => absurd e e'
  pre := List.prefix_refl c
theorem Trk.laid (tr : Trk o H) (n : H p = none) : Trk o (upd H p u) := fun a h => by
  obtain ⟨x, e, q⟩ := tr a h
  exact ⟨x, by rw [upd_ne (ne_of_none e n)]; exact e, q⟩
/-- .. owned by w -/
theorem Step.laidO (tr : Trk o H) (n : H p = none) : Step vol o c H (mkO o p w) c (upd H p u) where
  keep := fun a x e _ => by rw [upd_ne (ne_of_none e n)]; exact e
  own := fun a w' e _ => by
    have : a ≠ p := fun z => by
      subst z
      have := tr.new n
      rw [this] at e; cases e
    rw [mkO_ne this]; exact e
  new := fun a e e' => by
    by_cases h : a = p
    · subst h; exact n
    · rw [mkO_ne h] at e'; exact absurd e e'
  pre := List.prefix_refl c
theorem Trk.laidO (tr : Trk o H) (n : H p = none) (ou : Ownable u) : Trk (mkO o p w) (upd H p u) := fun a h => by
  by_cases e : a = p
  · subst e; exact ⟨u, upd_same, ou⟩
  · rw [mkO_ne e] at h
    obtain ⟨x, e', q⟩ := tr a h
    exact ⟨x, by rw [upd_ne e]; exact e', q⟩
theorem CellR.kept {o' : Gh} {H' : Hp} {n : Nat} {b : Addr} {k : Ce} (tr : Trk o H) (kp : Kept o H o' H') (h : ∀ b, o b = some (.cell n) → o' b = some (.cell n) ∧ ∀ u, H b = some u → H' b = some u) (y : CellR K o H n b k) : CellR K o' H' n b k := by
  cases k with
  | dead => trivial
  | lst xs =>
    obtain ⟨q1, vs, q2, q3, q4⟩ := y
    obtain ⟨k1, k2⟩ := h _ q1
    exact ⟨k1, vs, k2 _ q2, q3, q4.kept tr kp⟩
  | dct tk kvs =>
    obtain ⟨q1, ks, vs, ds, q2, q3, q5, q4, q6⟩ := y
    obtain ⟨k1, k2⟩ := h _ q1
    exact ⟨k1, ks, vs, ds, q2.kept k2 (fun b us zz => SqT.kept tr kp zz), q3, q5, q4.kept tr kp, q6⟩
  | tab =>
    obtain ⟨q0, q1, ps, q2, q3, q4⟩ := y
    obtain ⟨k1, k2⟩ := h _ q1
    exact ⟨q0, k1, ps, k2 _ q2, q3, fun pos cv e => by
      obtain ⟨b, e1, e2, e3⟩ := q4 pos cv e
      obtain ⟨k3, k4⟩ := h _ e3
      exact ⟨b, e1, k4 _ e2, k3⟩⟩
theorem CellR.ow {n : Nat} {b : Addr} {k : Ce} (y : CellR K o H n b k) (h : k ≠ .dead) : o b = some (.cell n) := by
  cases k with
  | dead => exact absurd rfl h
  | lst xs => exact y.1
  | dct tk kvs => exact y.1
  | tab => exact y.2.1
/-- the cells stand where nothing of theirs is touched -/
theorem CS.move {o' : Gh} {H' : Hp} (r : CS K o c S H) (k : Kept o H o' H') (kc : ∀ a n, o a = some (.cell n) → o' a = some (.cell n) ∧ ∀ u, H a = some u → H' a = some u) (tr : Trk o' H') : CS K o' c S H' :=
  ⟨r.clen, fun n a q e1 e2 => (r.cell n a q e1 e2).kept r.trk k fun a h => kc a n h, tr⟩
theorem CS.laid (r : CS K o c S H) (n : H p = none) : CS K o c S (upd H p u) :=
  r.move (Step.laid (vol := isCell) (c := c) n).kept (fun a m e => ⟨e, fun x q => by rw [upd_ne (ne_of_none q n)]; exact q⟩) (r.trk.laid n)
theorem CS.laidO (r : CS K o c S H) (n : H p = none) (ou : Ownable u) : CS K (mkO o p w) c S (upd H p u) :=
  r.move (Step.laidO (vol := isCell) (c := c) r.trk n).kept (fun a m e => by
    have : a ≠ p := fun z => by
      subst z
      have := r.trk.new n
      rw [this] at e; cases e
    exact ⟨by rw [mkO_ne this]; exact e, fun x q => by rw [upd_ne (ne_of_none q n)]; exact q⟩) (r.trk.laidO n ou)
theorem RS.laid (r : RS K o c ρ S σ H) (n : H p = none) : RS K o c ρ S σ (upd H p u) := r.step (Step.laid n) (r.cs.laid n)
theorem RS.laidO (r : RS K o c ρ S σ H) (n : H p = none) (ou : Ownable u) : RS K (mkO o p w) c ρ S σ (upd H p u) := r.step (Step.laidO r.cs.trk n) (r.cs.laidO n ou)
end
section
variable {G : Cc} {W : WX} {o : Gh} {c : Cs} {ρ : En} {σ : L2.St} {H : Hp} {Q : VK} {S : Sto} {p : Addr} {vs : List V} {ds : List D}
/-- an expression ends in data -/
theorem post_val {v : V} {d : D} (rs : RS G.K o c ρ S σ H) (h : PostE G W o c ρ σ H (.ok (.val d) S) Q) (r : Rep G.K o H v d) : Q v H := h v o c H Step.refl rs r
/-- .. in a new list -/
theorem post_own (rs : RS G.K o c ρ S σ H) (h : PostE G W o c ρ σ H (.ok (.own ds) S) Q) (n : H p = none) (z : vs.length ≤ sizeLine) (r : RepAll G.K o H vs ds) : Q (.ref p) (upd H p (.lst vs)) :=
  h (.ref p) (mkO o p .tmp) c _ (Step.laidO rs.cs.trk n) (rs.laidO n trivial) ⟨p, vs, rfl, mkO_same, upd_same, z, r.step rs.cs.trk (Step.laidO (vol := isCell) (c := c) rs.cs.trk n)⟩
/-- .. in a new tuple -/
theorem post_tup (rs : RS G.K o c ρ S σ H) (h : PostE G W o c ρ σ H (.ok (.val (.tuple ds)) S) Q) (n : H p = none) (z : vs.length ≤ sizeLine) (r : RepAll G.K o H vs ds) : Q (.ref p) (upd H p (.tup vs)) :=
  h (.ref p) o c _ (Step.laid n) (rs.laid n) (.tup p vs ds (.of upd_same) z (r.step rs.cs.trk (Step.laid (vol := isCell) (c := c) n)))
end

/-! ### argument lists -/
abbrev SA := En → Sto → R (List T)
def R.l {α β : Type} (r : R α) (k : α → Sto → R β) : R β := match r with
  | .ok t S => k t S
  | .exc e S => .exc e S
  | .bad => .bad
theorem R.l_ok {α β : Type} (t : α) (S : Sto) (k : α → Sto → R β) : R.l (.ok t S) k = k t S := rfl
theorem R.l_exc {α β : Type} (e : Exc) (S : Sto) (k : α → Sto → R β) : R.l (.exc e S) k = .exc e S := rfl
theorem R.l_bad {α β : Type} (k : α → Sto → R β) : R.l .bad k = .bad := rfl
def aNil : SA := fun _ S => .ok [] S
def aCons (f : SE) (g : SA) : SA := fun ρ S => R.l (f ρ S) fun t S1 => R.l (g ρ S1) fun ts S2 => .ok (asA t :: ts) S2
def RepTs (K : PySem.W.Frag) (o : Gh) (c : Cs) (H : Hp) (vs : List V) (ts : List T) : Prop := vs.length = ts.length ∧ ∀ (i : Nat) (v : V) (t : T), vs[i]? = some v → ts[i]? = some t → RepT K o c H .prot v t ∧ asA t = t
def PostA (G : Cc) (W : WX) (o : Gh) (c : Cs) (ρ : En) (σ : L2.St) (H : Hp) (r : R (List T)) (Q : List V → Hp → Prop) : Prop := match r with
  | .ok ts S' => ∀ vs o' c' H', Step isCell o c H o' c' H' → NT o' → RS G.K o' c' ρ S' σ H' → RepTs G.K o' c' H' vs ts → Q vs H'
  | .exc e S' => ∀ cls d o' c' H', Step isCell o c H o' c' H' → RS G.K o' c' ρ S' σ H' → NT o' → ExcR G.mg H' cls d e → W cls d σ H'
  | .bad => False
def AR (G : Cc) (W : WX) (t : TA) (f : SA) : Prop := ∀ (σ : L2.St) (H : Hp) (ρ : En) (S : Sto) (o : Gh) (c : Cs) (Q : List V → Hp → Prop), NT o → RS G.K o c ρ S σ H → PostA G W o c ρ σ H (f ρ S) Q → t σ H Q
theorem AR.d {G : Cc} {W : WX} {o : Gh} {c : Cs} {ρ : En} {σ : L2.St} {H : Hp} {f : SA} {t : TA} (h : AR G W t f) {S : Sto} {k : List T → Sto → R T} {Q : List V → Hp → Prop} {Q0 : VK} (nt : NT o) (rs : RS G.K o c ρ S σ H) (p : PostE G W o c ρ σ H (R.l (f ρ S) k) Q0)
    (q : ∀ ts S1 vs o1 c1 H1, Step isCell o c H o1 c1 H1 → NT o1 → RS G.K o1 c1 ρ S1 σ H1 → RepTs G.K o1 c1 H1 vs ts → PostE G W o1 c1 ρ σ H1 (k ts S1) Q0 → Q vs H1) : t σ H Q := by
  refine h σ H ρ S o c Q nt rs ?_
  cases e : f ρ S with
  | ok ts S1 => rw [e] at p; exact fun vs o' c' H' s nt' rs' r' => q ts S1 vs o' c' H' s nt' rs' r' (PostE.step s p)
  | exc e S1 => rw [e] at p; exact p
  | bad => rw [e] at p; exact p
def AV (G : Cc) (es : List Expr) (f : SA) : Prop := ∃ t : WX → TA, (∀ X W, G.Ok X W → PA X es (t W)) ∧ ∀ W, AR G W (t W) f
theorem asA_idem (t : T) : asA (asA t) = asA t := by cases t <;> rfl
theorem RepTs.step {K : PySem.W.Frag} {o o1 : Gh} {c c1 : Cs} {H H1 : Hp} {vs : List V} {ts : List T} (tr : Trk o H) (a : Step isCell o c H o1 c1 H1) (r : RepTs K o c H vs ts) : RepTs K o1 c1 H1 vs ts :=
  ⟨r.1, fun i v t e1 e2 => ⟨(r.2 i v t e1 e2).1.step tr a (fun z => z), (r.2 i v t e1 e2).2⟩⟩
theorem av_nil {G : Cc} : AV G [] aNil := ⟨fun _ => tNil, fun X W k => pa_nil, fun W σ H ρ S o c Q nt rs p => p [] o c H Step.refl nt rs ⟨rfl, fun i v t e => by simp at e⟩⟩
theorem PostA.step {G : Cc} {W : WX} {o o1 : Gh} {c c1 : Cs} {ρ : En} {σ : L2.St} {H H1 : Hp} {r : R (List T)} {Q : List V → Hp → Prop} (a : Step isCell o c H o1 c1 H1) (h : PostA G W o c ρ σ H r Q) : PostA G W o1 c1 ρ σ H1 r Q := by
  cases r with
  | ok t S' => exact fun v o' c' H' s => h v o' c' H' (a.trans s)
  | exc e S' => exact fun cls d o' c' H' s => h cls d o' c' H' (a.trans s)
  | bad => exact h
theorem av_cons {G : Cc} {e : Expr} {es : List Expr} {f : SE} {g : SA} (h1 : EV G e f) (h2 : AV G es g) (hs : ∀ env : PySem.Env, starEach (e :: es) env = (false, eval e env) :: starEach es env := by intro _; rfl) : AV G (e :: es) (aCons f g) := by
  obtain ⟨t1, p1, q1⟩ := h1
  obtain ⟨t2, p2, q2⟩ := h2
  refine ⟨fun W => tCons (t1 W) (t2 W), fun X W k => pa_cons (p1 X W k) (p2 X W k) (hs _), fun W σ H ρ S o c Q nt rs p => ?_⟩
  refine q1 W σ H ρ S o c _ nt rs ?_
  unfold aCons at p
  cases e1 : f ρ S with
  | ok t S1 =>
    rw [e1] at p
    intro v o1 c1 H1 s1 rs1 r1
    have s1' := s1.untmp nt
    have p' := PostA.step s1' p
    refine q2 W σ H1 ρ S1 (unT o1) c1 _ unT_nt rs1.untmp ?_
    cases e2 : g ρ S1 with
    | bad => rw [R.l_ok, e2] at p'; exact p'
    | exc e S2 => rw [R.l_ok, e2] at p'; exact p'
    | ok ts S2 =>
      rw [R.l_ok, e2] at p'
      intro vs o2 c2 H2 s2 nt2 rs2 r2
      refine p' (v :: vs) o2 c2 H2 s2 nt2 rs2 ⟨by rw [List.length_cons, List.length_cons, r2.1], fun i v' t' e3 e4 => ?_⟩
      cases i with
      | zero =>
        simp only [List.getElem?_cons_zero, Option.some.injEq] at e3 e4
        subst e3 e4
        exact ⟨(r1.toA (w := .prot) rs1.cs.trk).step rs1.untmp.cs.trk s2 (fun z => z), asA_idem t⟩
      | succ i => exact r2.2 i v' t' (by simpa using e3) (by simpa using e4)
  | exc e S1 => rw [e1] at p; exact p
  | bad => rw [e1] at p; exact p

/-! ### statements -/
def PostS (G : Cc) (W : WX) (o : Gh) (c : Cs) (H : Hp) (r : Fl) (D : Ends) : Prop := match r with
  | .nx ρ' S' => ∀ σ' o' c' H', Step isVol o c H o' c' H' → NT o' → RS G.K o' c' ρ' S' σ' H' → D.nx σ' H'
  | .bk ρ' S' => ∀ σ' o' c' H', Step isVol o c H o' c' H' → NT o' → RS G.K o' c' ρ' S' σ' H' → D.bk σ' H'
  | .ct ρ' S' => ∀ σ' o' c' H', Step isVol o c H o' c' H' → NT o' → RS G.K o' c' ρ' S' σ' H' → D.ct σ' H'
  | .rt t S' => ∀ v o' c' H', Step isVol o c H o' c' H' → CS G.K o' c' S' H' → RepT G.K o' c' H' .tmp v t → D.rt v H'
  | .ex e ρ' S' => ∀ cls d σ' o' c' H', Step isVol o c H o' c' H' → NT o' → RS G.K o' c' ρ' S' σ' H' → ExcR G.mg H' cls d e → W cls d σ' H'
  | .bad => False
def SR (G : Cc) (W : WX) (t : TS) (f : SS) : Prop := ∀ (σ : L2.St) (H : Hp) (ρ : En) (S : Sto) (o : Gh) (c : Cs) (D : Ends), NT o → RS G.K o c ρ S σ H → PostS G W o c H (f ρ S) D → t D σ H
def SV (G : Cc) (st : Stmt) (f : SS) : Prop := ∃ t : WX → TS, (∀ X W, G.Ok X W → PS X st (t W)) ∧ ∀ W, SR G W (t W) f
def SVs (G : Cc) (st : List Stmt) (f : SS) : Prop := ∃ t : WX → TS, (∀ X W, G.Ok X W → PSs X st (t W)) ∧ ∀ W, SR G W (t W) f
section
variable {G : Cc} {W : WX} {o o1 : Gh} {c c1 : Cs} {H H1 : Hp} {r : Fl} {D : Ends} {st : Stmt} {sts : List Stmt} {f g : SS}
theorem PostS.step (a : Step isVol o c H o1 c1 H1) (h : PostS G W o c H r D) : PostS G W o1 c1 H1 r D := by
  cases r with
  | nx ρ S => exact fun σ' o' c' H' s => h σ' o' c' H' (a.trans s)
  | bk ρ S => exact fun σ' o' c' H' s => h σ' o' c' H' (a.trans s)
  | ct ρ S => exact fun σ' o' c' H' s => h σ' o' c' H' (a.trans s)
  | rt t S => exact fun v o' c' H' s => h v o' c' H' (a.trans s)
  | ex e ρ S => exact fun cls d σ' o' c' H' s => h cls d σ' o' c' H' (a.trans s)
  | bad => exact h
def sSkip : SS := fun ρ S => .nx ρ S
def Fl.then (r : Fl) (g : SS) : Fl := match r with
  | .nx ρ S => g ρ S
  | x => x
def sSeq (f g : SS) : SS := fun ρ S => (f ρ S).then g
theorem svs_nil : SVs G [] sSkip := ⟨fun _ => tNext, fun _ _ _ => pss_nil, fun W σ H ρ S o c D nt rs p => p σ o c H Step.refl nt rs⟩
theorem svs_cons (h1 : SV G st f) (h2 : SVs G sts g) : SVs G (st :: sts) (sSeq f g) := by
  obtain ⟨t1, p1, q1⟩ := h1
  obtain ⟨t2, p2, q2⟩ := h2
  refine ⟨fun W => tSeq (t1 W) (t2 W), fun X W k => pss_cons (p1 X W k) (p2 X W k), fun W σ H ρ S o c D nt rs p => ?_⟩
  refine q1 W σ H ρ S o c _ nt rs ?_
  unfold sSeq at p
  cases e : f ρ S with
  | nx ρ' S' =>
    rw [e] at p
    intro σ' o' c' H' s nt' rs'
    have p' : PostS G W o c H (g ρ' S') D := p
    exact q2 W σ' H' ρ' S' o' c' D nt' rs' (p'.step s)
  | bk ρ' S' => rw [e] at p; exact p
  | ct ρ' S' => rw [e] at p; exact p
  | rt t S' => rw [e] at p; exact p
  | ex e ρ' S' => rw [e] at p; exact p
  | bad => rw [e] at p; exact p
theorem svs_one (h1 : SV G st f) : SVs G [st] f := by
  obtain ⟨t1, p1, q1⟩ := h1
  exact ⟨t1, fun X W k => pss_one (p1 X W k), q1⟩
end
end BV
/-! The by-value calculus: names, constants, operators. -/
namespace BV
open PySem L2

section
variable {G : Cc} {X : Cx} {W : WX}
theorem Cc.Ok.at (k : G.Ok X W) {i : Nat} {x : Str} (h : G.N[i]? = some x) : X.N[i]? = some x := by rw [k.N]; exact h
theorem Cc.Ok.vis (k : G.Ok X W) {x : Str} (h : Vis G.sc x) : Vis X.env.scope x := by rw [k.sc]; exact h
theorem Cc.Ok.loc (k : G.Ok X W) {x : Str} (h : Loc G.sc x) : Loc X.env.scope x := by rw [k.sc]; exact h
theorem Cc.Ok.gl (k : G.Ok X W) {x : Str} (h : G.sc.names.lookup x = some .globalImplicit) : Gl X x := by
  show X.env.scope.names.lookup x = some .globalImplicit
  rw [k.sc]; exact h
theorem Cc.Ok.nd (k : G.Ok X W) (h : G.N.Nodup) : X.N.Nodup := by rw [k.N]; exact h
theorem Cc.Ok.m (k : G.Ok X W) {x : Str} {u : Option Value} (h : G.mg x = u) : X.mg x = u := by rw [k.mg]; exact h
theorem Cc.Ok.hf (k : G.Ok X W) {x : Str} (h : G.fn x = true ∨ G.sc.names.lookup x = some .local) : X.fn x = true ∨ X.env.scope.names.lookup x = some .local := by rw [k.fn, k.sc]; exact h
end

section
variable {G : Cc} {pos : Pos}
/-! ### names -/
def cVar (i : Nat) : SE := fun ρ S => match ρ[i]? with
  | some (some (.val d)) => .ok (.val d) S
  | some (some (.cel n)) => .ok (.cel n) S
  | some (some (.scr ns)) => .ok (.scr ns) S
  | some (some (.exn a C d e)) => .ok (.exn a C d e) S
  | _ => .bad
theorem ev_var (i : Nat) {x : Str} (hN : G.N[i]? = some x := by rfl) (hv : Vis G.sc x := by first | exact Or.inl rfl | exact Or.inr (Or.inl rfl) | exact Or.inr (Or.inr rfl))
    (hd : (x == ("__debug__" : Str)) = false := by decide) (hcd : (x == ("__classdict__" : Str)) = false := by decide) : EV G (.Name x pos) (cVar i) := by
  refine ⟨fun _ => tVar i, fun X W k => pe_var (k.at hN) (k.vis hv) hd hcd, fun W σ H ρ S o c Q nt rs p => ?_⟩
  unfold cVar at p
  split at p
  · rename_i d e
    obtain ⟨v, e1, r⟩ := rs.slot i _ e
    exact ⟨v, e1, p v o c H Step.refl rs r⟩
  · rename_i n e
    obtain ⟨v, e1, r⟩ := rs.slot i _ e
    exact ⟨v, e1, p v o c H Step.refl rs r⟩
  · rename_i ns e
    obtain ⟨v, e1, r⟩ := rs.slot i _ e
    exact ⟨v, e1, p v o c H Step.refl rs r⟩
  · rename_i a C d x e
    obtain ⟨v, e1, r⟩ := rs.slot i _ e
    exact ⟨v, e1, p v o c H Step.refl rs r⟩
  · exact p.elim
def cC (d : D) : SE := fun _ S => .ok (.val d) S
theorem ev_C {e : Expr} {v : V} {d : D} (h : ∀ X, PE X e (tC v)) (r : ∀ K o H, Rep K o H v d) : EV G e (cC d) :=
  ⟨fun _ => tC v, fun X _ _ => h X, fun W σ H ρ S o c Q nt rs p => p v o c H Step.refl rs (r _ _ _)⟩
theorem ev_int {i : Int} {j : Nat} : EV G (.Constant (.int i) j pos) (cC (.int i)) := ev_C (fun _ => pe_int) fun _ _ _ => .int i
theorem ev_bl {i : Bool} {j : Nat} : EV G (.Constant (.bool i) j pos) (cC (.bool i)) := ev_C (fun _ => pe_bl) fun _ _ _ => .bl i
theorem ev_non {j : Nat} : EV G (.Constant .none j pos) (cC .none) := ev_C (fun _ => pe_non) fun _ _ _ => .non
theorem strOk_of (s : String) : PyData.strOk (Str.ofString s) = true := by
  have h := TL.tl_ofString s
  have e : (Str.ofString s).cps.toList = s.toList.map Char.toNat := h
  show (Str.ofString s).cps.all (fun x => decide (x < 0x110000)) = true
  rw [← Array.all_toList, e, List.all_map, List.all_eq_true]
  intro c _
  have := c.valid
  show decide (c.val.toNat < 0x110000) = true
  refine decide_eq_true ?_
  have q : c.val.toNat < 0xd800 ∨ (0xdfff < c.val.toNat ∧ c.val.toNat < 0x110000) := this
  omega
theorem ev_str {x : Str} {j : Nat} (h1 : PyData.strOk x = true := by exact strOk_of _) (h2 : x.length ≤ sizeLine := by decide +kernel) : EV G (.Constant (.str x) j pos) (cC (.str x)) := ev_C (fun _ => pe_str) fun _ _ _ => .str x h1 h2
/-- a constant of the module: a whole number -/
theorem ev_gint {x : Str} {i : Int} {t : Tok} (hm : G.mg x = some (.int i t)) (hg : G.sc.names.lookup x = some .globalImplicit := by rfl) (hd : (x == ("__debug__" : Str)) = false := by decide) : EV G (.Name x pos) (cC (.int i)) :=
  ⟨fun _ => tC (.int i), fun X W k => pe_glob (k.gl hg) (k.m hm) ⟨_, rfl⟩ hd, fun W σ H ρ S o c Q nt rs p => p _ o c H Step.refl rs (.int i)⟩
theorem ev_gstr {x y : Str} {t : Tok} (hm : G.mg x = some (.str y t)) (h1 : PyData.strOk y = true) (h2 : y.length ≤ sizeLine) (hg : G.sc.names.lookup x = some .globalImplicit := by rfl) (hd : (x == ("__debug__" : Str)) = false := by decide) : EV G (.Name x pos) (cC (.str y)) :=
  ⟨fun _ => tC (.str y), fun X W k => pe_glob (k.gl hg) (k.m hm) ⟨_, rfl⟩ hd, fun W σ H ρ S o c Q nt rs p => p _ o c H Step.refl rs (.str y h1 h2)⟩

/-- a name as an operand: its own list is read in place -/
def cVarU (i : Nat) : SE := fun ρ S => match ρ[i]? with
  | some (some (.val d)) => .ok (.val d) S
  | some (some (.own xs)) => .ok (.own xs) S
  | some (some (.ownd q kvs)) => .ok (.ownd q kvs) S
  | _ => .bad
theorem uv_var (i : Nat) {x : Str} (hN : G.N[i]? = some x := by rfl) (hv : Vis G.sc x := by first | exact Or.inl rfl | exact Or.inr (Or.inl rfl) | exact Or.inr (Or.inr rfl))
    (hd : (x == ("__debug__" : Str)) = false := by decide) (hcd : (x == ("__classdict__" : Str)) = false := by decide) : UV G (.Name x pos) (cVarU i) := by
  refine ⟨fun _ => tVar i, fun X W k => pe_var (k.at hN) (k.vis hv) hd hcd, fun W σ H ρ S o c Q nt rs p => ?_⟩
  have ns : ∀ a, o a = some (.slot i) → ∀ w, o a = some w → ¬ isCell w := fun a h w hw => by rw [h] at hw; cases hw; exact fun z => z
  unfold cVarU at p
  split at p
  · rename_i d e
    obtain ⟨v, e1, r⟩ := rs.slot i _ e
    obtain ⟨d', e2, q⟩ := p
    cases e2
    exact ⟨v, e1, q v o c H Step.refl nt rs (.of _ _ r)⟩
  · rename_i xs e
    obtain ⟨v, e1, a, vs, e2, h1, h2, h3, h4⟩ := rs.slot i _ e
    subst e2
    obtain ⟨d', e2, q⟩ := p
    cases e2
    exact ⟨_, e1, q _ o c H Step.refl nt rs (.lst a vs xs h2 (ns a h1) h3 h4)⟩
  · rename_i tk kvs e
    obtain ⟨v, e1, a, ks, vs, ds, e2, h1, h2, h3, h5, h4, e6⟩ := rs.slot i _ e
    subst e2
    obtain ⟨d', e2, q⟩ := p
    cases e2
    exact ⟨_, e1, q _ o c H Step.refl nt rs (.dct tk a ks vs ds _ h2.r (ns a h1) h3 h5 h4 (by rw [e6]))⟩
  · exact p.elim

/-! ### operators of two -/
def cBin (g : D → D → Option T) (f1 f2 : SE) : SE := fun ρ S => R.d (f1 ρ S) fun a S1 => R.d (f2 ρ S1) fun b S2 => match g a b with | some t => .ok t S2 | none => .bad
/-- by values: what r asks of two data's values, as g says -/
def OpD (K : PySem.W.Frag) (r : R2) (g : D → D → Option T) : Prop := ∀ (G : Cc) (W : WX) (o : Gh) (c : Cs) (ρ : En) (S : Sto) (σ : L2.St) (H : Hp) (x y : V) (a b : D) (t : T) (Q : VK), G.K = K → RS K o c ρ S σ H → RepU K o H x a → RepU K o H y b → g a b = some t →
  PostE G W o c ρ σ H (.ok t S) Q → r x y H Q
theorem er_bin {W : WX} {t1 t2 : TE} {f1 f2 : SE} {r : R2} {g : D → D → Option T} (h1 : URd G W t1 f1) (h2 : URd G W t2 f2) (hr : OpD G.K r g) : ER G W (tOp r t1 t2) (cBin g f1 f2) := by
  intro σ H ρ S o c Q nt rs p
  refine h1.d nt rs p fun a S1 v1 o1 c1 H1 s1 nt1 rs1 r1 p1 => ?_
  refine h2.d nt1 rs1 p1 fun b S2 v2 o2 c2 H2 s2 nt2 rs2 r2 p2 => ?_
  cases e : g a b with
  | none => rw [e] at p2; exact p2.elim
  | some t =>
    rw [e] at p2
    exact hr G W o2 c2 ρ S2 σ H2 v1 v2 a b t Q rfl rs2 (r1.step rs1.cs.trk s2) r2 e p2
theorem ev_op {a b : Expr} {f1 f2 : SE} {op : Operator} {r : PySem.W.Frag → R2} {g : D → D → Option T} (ho : ∀ X W, G.Ok X W → OpR X (binaryOp op) (r X.K)) (hr : OpD G.K (r G.K) g) (h1 : UV G a f1) (h2 : UV G b f2) : EV G (.BinOp a op b pos) (cBin g f1 f2) := by
  obtain ⟨t1, p1, q1⟩ := h1
  obtain ⟨t2, p2, q2⟩ := h2
  exact ⟨fun W => tOp (r G.K) (t1 W) (t2 W), fun X W k => by have := ho X W k; rw [k.K] at this; exact pe_op this (p1 X W k) (p2 X W k), fun W => er_bin (q1 W) (q2 W) hr⟩

def gAdd : D → D → Option T
  | .int i, .int j => some (.val (.int (i + j)))
  | .str x, .str y => if x.length + y.length ≤ sizeLine then some (.val (.str (x ++ y))) else none
  | .list xs, .list ys => if xs.length + ys.length ≤ sizeLine then some (.own (xs ++ ys)) else none
  | .tuple xs, .tuple ys => if xs.length + ys.length ≤ sizeLine then some (.val (.tuple (xs ++ ys))) else none
  | _, _ => none
def rAddD (K : PySem.W.Frag) : R2 := fun x y H Q => (((∃ i j, x = .int i ∧ y = .int j ∧ Q (.int (i + j)) H) ∨ (∃ i j, x = .str i ∧ y = .str j ∧ i.length + j.length ≤ sizeLine ∧ Q (.str (i ++ j)) H)) ∨ (rCat x y H Q ∨ rCatA K x y H Q))
theorem strOk_append {x y : Str} (h1 : PyData.strOk x = true) (h2 : PyData.strOk y = true) : PyData.strOk (x ++ y) = true := by
  have e : (x ++ y).cps = x.cps ++ y.cps := rfl
  show (x ++ y).cps.all _ = true
  rw [e, Array.all_append, Bool.and_eq_true]
  exact ⟨h1, h2⟩
theorem length_append_str (x y : Str) : (x ++ y).length = x.length + y.length := by
  show (x.cps ++ y.cps).size = _
  rw [Array.size_append]
  rfl
theorem opd_add (K : PySem.W.Frag) : OpD K (rAddD K) gAdd := by
  intro G W o c ρ S σ H x y a b t Q hK rs r1 r2 e p
  subst hK
  unfold gAdd at e
  split at e
  · cases e
    rw [r1.intV, r2.intV]
    exact .inl (.inl ⟨_, _, rfl, rfl, post_val rs p (.int _)⟩)
  · split at e
    · cases e
      obtain ⟨e1, o1, l1⟩ := r1.strV
      obtain ⟨e2, o2, l2⟩ := r2.strV
      rw [e1, e2]
      rename_i hl
      exact .inl (.inr ⟨_, _, rfl, rfl, hl, post_val rs p (.str _ (strOk_append o1 o2) (by rw [length_append_str]; exact hl))⟩)
    · cases e
  · split at e
    · cases e
      obtain ⟨a1, v1, e1, h1, n1, z1, q1⟩ := r1.lstV
      obtain ⟨a2, v2, e2, h2, n2, z2, q2⟩ := r2.lstV
      rw [e1, e2]
      rename_i hl
      rw [← q1.length, ← q2.length] at hl
      exact .inr (.inl ⟨a1, a2, v1, v2, rfl, rfl, h1, h2, hl, fun q n => post_own rs p n (by rw [List.length_append]; exact hl) (q1.append q2)⟩)
    · cases e
  · split at e
    · cases e
      obtain ⟨a1, v1, e1, h1, z1, q1⟩ := r1.tupW
      obtain ⟨a2, v2, e2, h2, z2, q2⟩ := r2.tupW
      rw [e1, e2]
      rename_i hl
      rw [← q1.length, ← q2.length] at hl
      refine .inr (.inr ⟨a1, a2, v1, v2, rfl, rfl, h1, h2, hl, fun z => ?_, fun _ z => ?_, fun z1 z2 q n => post_tup rs p n (by rw [List.length_append]; exact hl) (q1.append q2)⟩)
      · subst z
        cases q1
        exact post_val rs p (.tup a2 v2 _ h2 z2 q2)
      · subst z
        cases q2
        exact post_val rs p (by rw [List.append_nil]; exact .tup a1 v1 _ h1 z1 q1)
    · cases e
  · cases e
theorem ev_add {a b : Expr} {f1 f2 : SE} (h1 : UV G a f1) (h2 : UV G b f2) : EV G (.BinOp a .Add b pos) (cBin gAdd f1 f2) :=
  ev_op (r := rAddD) (fun X W k => (op_add.or op_add_str).or (op_cat.or op_catA)) (opd_add _) h1 h2
def gInt (p : Int → Int → Bool) (h : Int → Int → Int) : D → D → Option T
  | .int i, .int j => if p i j then some (.val (.int (h i j))) else none
  | _, _ => none
theorem opd_int {K : PySem.W.Frag} {C : Int → Int → Prop} {p : Int → Int → Bool} {h : Int → Int → Int} (hp : ∀ i j, p i j = true → C i j) : OpD K (rI C fun i j => .int (h i j)) (gInt p h) := by
  intro G W o c ρ S σ H x y a b t Q hK rs r1 r2 e q
  subst hK
  unfold gInt at e
  split at e
  · split at e
    · cases e
      rw [r1.intV, r2.intV]
      exact ⟨_, _, rfl, rfl, hp _ _ ‹_›, post_val rs q (.int _)⟩
    · cases e
  · cases e
def gSub := gInt (fun _ _ => true) (fun i j => i - j)
theorem ev_sub {a b : Expr} {f1 f2 : SE} (h1 : UV G a f1) (h2 : UV G b f2) : EV G (.BinOp a .Sub b pos) (cBin gSub f1 f2) :=
  ev_op (r := fun _ => rI (fun _ _ => True) fun i j => .int (i - j)) (fun X W k => opI fun _ _ _ _ _ _ _ _ q => PyProof.Rows.sub_int q) (opd_int fun _ _ _ => trivial) h1 h2
/-- the numbers are not too wide -/
def mulOk (i j : Int) : Bool := decide (i.natAbs.log2 + j.natAbs.log2 < 1000000)
theorem mulOk_ok {i j : Int} (h : mulOk i j = true) : CMulW i j := by
  unfold mulOk at h
  have h2 : i.natAbs.log2 + j.natAbs.log2 < 1000000 := of_decide_eq_true h
  exact h2
/-- a number of moderate size (told by its digits, so that no unary count comes of it) -/
def smallI (i : Int) : Bool := decide (i.natAbs.log2 < 60)
theorem smallI_bd {i : Int} (h : smallI i = true) : -(2 ^ 60) < i ∧ i < 2 ^ 60 := by
  have h1 : i.natAbs.log2 < 60 := of_decide_eq_true h
  have h2 : i.natAbs < 2 ^ 60 := by
    by_cases z : i.natAbs = 0
    · omega
    · exact (Nat.log2_lt z).mp h1
  omega
theorem smallI_lo {i : Int} (h : smallI i = true) : -(2 ^ 62) ≤ i := by have := smallI_bd h; omega
theorem smallI_hi {i : Int} (h : smallI i = true) : i < 2 ^ 62 := by have := smallI_bd h; omega
theorem smallI_lo3 {i : Int} (h : smallI i = true) : -(2 ^ 63) ≤ i := by have := smallI_bd h; omega
theorem smallI_hi3 {i : Int} (h : smallI i = true) : i < 2 ^ 63 := by have := smallI_bd h; omega
theorem smallI_of {i : Int} (h0 : -(2 ^ 60) < i) (h1 : i < 2 ^ 60) : smallI i = true := by
  refine decide_eq_true ?_
  by_cases z : i.natAbs = 0
  · rw [z]; decide
  · exact (Nat.log2_lt z).mpr (by omega)
def gMul : D → D → Option T
  | .int i, .int j => if mulOk i j then some (.val (.int (i * j))) else none
  | .list xs, .int k => if smallI k = true ∧ xs.length * k.toNat ≤ sizeLine then some (.own (List.replicate k.toNat xs).flatten) else none
  | .int k, .list xs => if smallI k = true ∧ xs.length * k.toNat ≤ sizeLine then some (.own (List.replicate k.toNat xs).flatten) else none
  | _, _ => none
theorem RepAll.rep {K : PySem.W.Frag} {o : Gh} {H : Hp} {vs : List V} {ds : List D} (h : RepAll K o H vs ds) : ∀ k : Nat, RepAll K o H (List.replicate k vs).flatten (List.replicate k ds).flatten
  | 0 => .nil
  | k + 1 => by
    rw [List.replicate_succ, List.replicate_succ, List.flatten_cons, List.flatten_cons]
    exact h.append (RepAll.rep h k)
theorem length_rep {α : Type} (xs : List α) : ∀ k : Nat, (List.replicate k xs).flatten.length = xs.length * k
  | 0 => by simp
  | k + 1 => by rw [List.replicate_succ, List.flatten_cons, List.length_append, length_rep xs k, Nat.mul_succ, Nat.add_comm]
/-- an int times a list -/
def rRepI : R2 := fun x y H Q => rRep y x H Q
theorem op_repI {X : Cx} : OpR X (binaryOp .Mult) rRepI := by
  intro pins s σ H x y v u Q I rx ry hq
  obtain ⟨b, j, vs, rfl, rfl, hb, j1, j2, jz, q⟩ := hq
  obtain ⟨t, rfl⟩ := rx
  cases ry
  obtain ⟨z, its, n, r, hl, e⟩ := I.lstM hb
  have lz : its.toArray.size * j.toNat ≤ sizeLine := by simpa [← hl] using jz
  have c0 : ¬ (!Builtin.List.listFitsIndex j) = true := by simp [fitsIndex_both j1 j2]
  have c1 : ¬ its.toArray.size * j.toNat > (2 ^ 63 - 1) / 8 := fun w => absurd (Nat.lt_of_lt_of_le w lz) (by decide)
  have c2 : ¬ Builtin.List.listTooLong (its.toArray.size * j.toNat) = true := by rw [notLongL lz]; exact Bool.false_ne_true
  have made : List.foldl (fun p q => p ++ q) #[] (List.replicate (if its.toArray.isEmpty = true then 0 else j.toNat) its.toArray) = (List.replicate j.toNat its).flatten.toArray := by
    have f := foldl_rep its j.toNat []
    cases its with
    | nil => simp
    | cons a l => simpa using f
  refine lm_binaryOp_repeat_right (T := "list") (U := "int") (by decide) (typeIs_int · j t) ⟨_, e, rfl⟩ F.fills_int_mul noFill_list_mul F.slot_int_mul lm_noRepeat_int repeat_list F.slot_int_index.lookup ?_
  refine call_meets F.slot_int_mul (typeIs_int s j t) F.entry_int_mul (F.args_int_mul_2 _ _) (int___mul___int_list j t b its.toArray n) ⟨e, rfl, ⟨_, e, rfl⟩, ?_⟩
  refine call_meets F.slot_list_mul ⟨_, e, rfl⟩ F.entry_list_mul (F.args_list_mul_2 _ _) (AutoListH.list___mul___list_int_3 b its.toArray n j t c0 c1 c2) ⟨e, ?_⟩
  rw [made]
  refine ⟨.ref _, _, I.lnew (t' := s.toks) (r.rep j.toNat) ?_, rfl, q _ I.fresh⟩
  rw [PyProof.Rows.lm_len_rep_flat, Nat.mul_comm]
  exact jz
def rMulD : R2 := fun x y H Q => rI CMulW (fun i j => .int (i * j)) x y H Q ∨ (rRep x y H Q ∨ rRepI x y H Q)
theorem opd_mul (K : PySem.W.Frag) : OpD K rMulD gMul := by
  intro G W o c ρ S σ H x y a b t Q hK rs r1 r2 e p
  subst hK
  unfold gMul at e
  split at e
  · split at e
    · cases e
      rw [r1.intV, r2.intV]
      exact .inl ⟨_, _, rfl, rfl, mulOk_ok ‹_›, post_val rs p (.int _)⟩
    · cases e
  · split at e
    · cases e
      obtain ⟨a1, v1, e1, h1, n1, z1, q1⟩ := r1.lstV
      rw [e1, r2.intV]
      rename_i hl
      obtain ⟨k0, k3⟩ := hl
      have k1 := smallI_lo3 k0
      have k2 := smallI_hi3 k0
      rw [← q1.length] at k3
      exact .inr (.inl ⟨a1, _, v1, rfl, rfl, h1, k1, k2, k3, fun q n => post_own rs p n (by rw [length_rep]; exact k3) (q1.rep _)⟩)
    · cases e
  · split at e
    · cases e
      obtain ⟨a1, v1, e1, h1, n1, z1, q1⟩ := r2.lstV
      rw [e1, r1.intV]
      rename_i hl
      obtain ⟨k0, k3⟩ := hl
      have k1 := smallI_lo3 k0
      have k2 := smallI_hi3 k0
      rw [← q1.length] at k3
      exact .inr (.inr ⟨a1, _, v1, rfl, rfl, h1, k1, k2, k3, fun q n => post_own rs p n (by rw [length_rep]; exact k3) (q1.rep _)⟩)
    · cases e
  · cases e
theorem ev_mul {a b : Expr} {f1 f2 : SE} (h1 : UV G a f1) (h2 : UV G b f2) : EV G (.BinOp a .Mult b pos) (cBin gMul f1 f2) :=
  ev_op (r := fun _ => rMulD) (fun X W k => op_mulW.or (op_rep.or op_repI)) (opd_mul _) h1 h2
def divOk (j : Int) : Bool := decide (0 < j) && decide (j.natAbs.log2 < 9000)
def gDiv := gInt (fun _ j => divOk j) (fun i j => i / j)
theorem ev_div {a b : Expr} {f1 f2 : SE} (h1 : UV G a f1) (h2 : UV G b f2) : EV G (.BinOp a .FloorDiv b pos) (cBin gDiv f1 f2) :=
  ev_op (r := fun _ => rI CDivW fun i j => .int (i / j)) (fun X W k => op_fdivW) (opd_int fun _ j h => by
    unfold divOk at h
    rw [Bool.and_eq_true] at h
    exact ⟨of_decide_eq_true h.1, of_decide_eq_true h.2⟩) h1 h2
def gMod := gInt (fun _ j => decide (0 < j)) (fun i j => i % j)
theorem ev_mod {a b : Expr} {f1 f2 : SE} (h1 : UV G a f1) (h2 : UV G b f2) : EV G (.BinOp a .Mod b pos) (cBin gMod f1 f2) :=
  ev_op (r := fun _ => rI (fun _ j => 0 < j) fun i j => .int (i % j)) (fun X W k => op_mod) (opd_int fun _ j h => of_decide_eq_true h) h1 h2
def gPow := gInt (fun i j => decide (0 ≤ j ∧ j ≤ 1000000 ∧ i.natAbs < 2 ^ 64)) (fun i j => i ^ j.toNat)
theorem ev_pow {a b : Expr} {f1 f2 : SE} (h1 : UV G a f1) (h2 : UV G b f2) : EV G (.BinOp a .Pow b pos) (cBin gPow f1 f2) :=
  ev_op (r := fun _ => rI CPow fun i j => .int (i ^ j.toNat)) (fun X W k => op_pow) (opd_int fun i j h => (by have h2 : 0 ≤ j ∧ j ≤ 1000000 ∧ i.natAbs < 2 ^ 64 := of_decide_eq_true h; exact h2)) h1 h2

/-! ### of one -/
def cUn (g : D → Option T) (f1 : SE) : SE := fun ρ S => R.d (f1 ρ S) fun a S1 => match g a with | some t => .ok t S1 | none => .bad
def gNeg : D → Option T
  | .int i => some (.val (.int (-i)))
  | _ => none
theorem ev_neg {a : Expr} {f1 : SE} (h1 : UV G a f1) : EV G (.UnaryOp .USub a pos) (cUn gNeg f1) := by
  obtain ⟨t1, p1, q1⟩ := h1
  refine ⟨fun W => tUn (rU fun i => .int (-i)) (t1 W), fun X W k => pe_un un_neg (p1 X W k), fun W σ H ρ S o c Q nt rs p => ?_⟩
  refine (q1 W).d nt rs p fun a S1 v1 o1 c1 H1 s1 nt1 rs1 r1 p1 => ?_
  cases a with
  | int i =>
    rw [r1.intV]
    exact ⟨i, rfl, post_val rs1 p1 (.int _)⟩
  | _ => exact p1.elim

/-! ### comparisons -/
/-- a comparison by its rule -/
def CR (G : Cc) (op : CmpOp) (g : D → D → Option T) : Prop := ∃ r : R2, (∀ X W, G.Ok X W → OpR X (compareOp op) r) ∧ OpD G.K r g
theorem ev_cmp {a b : Expr} {f1 f2 : SE} {op : CmpOp} {g : D → D → Option T} (hr : CR G op g) (h1 : UV G a f1) (h2 : UV G b f2)
    (hm : behindInMarks op b = false := by rfl) : EV G (.Compare a [op] [b] pos) (cBin g f1 f2) := by
  obtain ⟨t1, p1, q1⟩ := h1
  obtain ⟨t2, p2, q2⟩ := h2
  obtain ⟨r, ho, hr⟩ := hr
  exact ⟨fun W => tOp r (t1 W) (t2 W), fun X W k => pe_cmpR (ho X W k) (p1 X W k) (p2 X W k) hm, fun W => er_bin (q1 W) (q2 W) hr⟩
/-- data that == takes -/
def eqOk (d : D) : Bool := noDict d && decide (d.depth ≤ 64)
def gEq (neg : Bool) : D → D → Option T := fun a b => if eqOk a && eqOk b then some (.val (.bool (if neg then !PyData.eqv a b else PyData.eqv a b))) else none
theorem eqOk_shaped {K : PySem.W.Frag} {o : Gh} {H : Hp} {v : V} {d : D} (r : RepU K o H v d) (h : eqOk d = true) : SeqAt.shaped d = true := by
  unfold eqOk at h
  rw [Bool.and_eq_true] at h
  unfold SeqAt.shaped
  rw [r.can h.1, h.2]
  rfl
theorem opd_eq (K : PySem.W.Frag) : OpD K (rEqD K) (gEq false) := by
  intro G W o c ρ S σ H x y a b t Q hK rs r1 r2 e p
  subst hK
  unfold gEq at e
  split at e
  · cases e
    rename_i h
    rw [Bool.and_eq_true] at h
    have n1 := h.1
    have n2 := h.2
    unfold eqOk at n1 n2
    rw [Bool.and_eq_true] at n1 n2
    exact ⟨a, b, r1.dp n1.1, r2.dp n2.1, eqOk_shaped r1 h.1, eqOk_shaped r2 h.2, post_val rs p (.bl _)⟩
  · cases e
theorem opd_ne (K : PySem.W.Frag) : OpD K (rNeD K) (gEq true) := by
  intro G W o c ρ S σ H x y a b t Q hK rs r1 r2 e p
  subst hK
  unfold gEq at e
  split at e
  · cases e
    rename_i h
    rw [Bool.and_eq_true] at h
    have n1 := h.1
    have n2 := h.2
    unfold eqOk at n1 n2
    rw [Bool.and_eq_true] at n1 n2
    exact ⟨a, b, r1.dp n1.1, r2.dp n2.1, eqOk_shaped r1 h.1, eqOk_shaped r2 h.2, post_val rs p (.bl _)⟩
  · cases e
theorem cr_eq : CR G .Eq (gEq false) := ⟨rEqD G.K, fun X W k => by have := op_eqD (X := X) k.units; rw [k.K] at this; exact this, opd_eq _⟩
theorem cr_ne : CR G .NotEq (gEq true) := ⟨rNeD G.K, fun X W k => by have := op_neD (X := X) k.units; rw [k.K] at this; exact this, opd_ne _⟩
def gCmp (p : Int → Int → Bool) : D → D → Option T
  | .int i, .int j => some (.val (.bool (p i j)))
  | _, _ => none
theorem opd_cmp {K : PySem.W.Frag} {p : Int → Int → Bool} : OpD K (rI0 fun i j => .bl (p i j)) (gCmp p) := by
  intro G W o c ρ S σ H x y a b t Q hK rs r1 r2 e q
  subst hK
  unfold gCmp at e
  split at e
  · cases e
    rw [r1.intV, r2.intV]
    exact ⟨_, _, rfl, rfl, post_val rs q (.bl _)⟩
  · cases e
def gLt := gCmp fun i j => decide (i < j)
def gLe := gCmp fun i j => decide (i ≤ j)
def gGt := gCmp fun i j => decide (j < i)
def gGe := gCmp fun i j => decide (j ≤ i)
theorem cr_lt : CR G .Lt gLt := ⟨_, fun X W k => op_lt, opd_cmp⟩
theorem cr_le : CR G .LtE gLe := ⟨_, fun X W k => op_le, opd_cmp⟩
theorem cr_gt : CR G .Gt gGt := ⟨_, fun X W k => op_gt, opd_cmp⟩
theorem cr_ge : CR G .GtE gGe := ⟨_, fun X W k => op_ge, opd_cmp⟩
/-! ### dicts as data -/
/-- a key -/
def keyOf : D → Option (Key ⊕ List Key)
  | .int i => some (.inl (.inl i))
  | .str x => some (.inl (.inr x))
  | .tuple ds => (keysOf ds).map .inr
  | _ => none
where
  keysOf : List D → Option (List Key)
    | [] => some []
    | .int i :: ds => (keysOf ds).map (.inl i :: ·)
    | .str x :: ds => (keysOf ds).map (.inr x :: ·)
    | _ :: _ => none
/-- the value at a key -/
def dget (kvs : List (D × D)) (k : Key ⊕ List Key) : Option D := (kvs.find? fun p => decide (keyOf p.1 = some k)).map (·.2)
/-- d[k] = v -/
def dput (kvs : List (D × D)) (k : Key ⊕ List Key) (kd v : D) : List (D × D) :=
  if kvs.any (fun p => decide (keyOf p.1 = some k)) then kvs.map (fun p => if keyOf p.1 = some k then (p.1, v) else p) else kvs ++ [(kd, v)]
theorem keysOf_key : ∀ ks : List Key, keyOf.keysOf (ks.map keyD) = some ks
  | [] => rfl
  | .inl i :: ks => by
    show (keyOf.keysOf (ks.map keyD)).map _ = _
    rw [keysOf_key ks]; rfl
  | .inr x :: ks => by
    show (keyOf.keysOf (ks.map keyD)).map _ = _
    rw [keysOf_key ks]; rfl
theorem keyOf_key (k : Key) : keyOf (keyD k) = some (.inl k) := by cases k <;> rfl
theorem keyOf_keys (ks : List Key) : keyOf (.tuple (ks.map keyD)) = some (.inr ks) := by
  show (keyOf.keysOf _).map _ = _
  rw [keysOf_key]; rfl
theorem keysOf_some : ∀ {ds : List D} {ks : List Key}, keyOf.keysOf ds = some ks → ds = ks.map keyD
  | [], ks, h => by cases h; rfl
  | d :: ds, ks, h => by
    cases d with
    | int i =>
      cases e : keyOf.keysOf ds with
      | none => simp only [keyOf.keysOf, e, Option.map_none] at h; cases h
      | some l =>
        simp only [keyOf.keysOf, e, Option.map_some] at h
        cases h
        rw [keysOf_some e]; rfl
    | str x =>
      cases e : keyOf.keysOf ds with
      | none => simp only [keyOf.keysOf, e, Option.map_none] at h; cases h
      | some l =>
        simp only [keyOf.keysOf, e, Option.map_some] at h
        cases h
        rw [keysOf_some e]; rfl
    | _ => simp [keyOf.keysOf] at h
theorem keyOf_inl {d : D} {k : Key} (h : keyOf d = some (.inl k)) : d = keyD k := by
  cases d with
  | int i => cases h; rfl
  | str x => cases h; rfl
  | tuple ds =>
    cases e : keyOf.keysOf ds with
    | none => simp only [keyOf, e, Option.map_none] at h; cases h
    | some l => simp only [keyOf, e, Option.map_some] at h; cases h
  | _ => cases h
theorem keyOf_inr {d : D} {ks : List Key} (h : keyOf d = some (.inr ks)) : d = .tuple (ks.map keyD) := by
  cases d with
  | int i => cases h
  | str x => cases h
  | tuple ds =>
    cases e : keyOf.keysOf ds with
    | none => simp only [keyOf, e, Option.map_none] at h; cases h
    | some l =>
      simp only [keyOf, e, Option.map_some] at h
      cases h
      rw [keysOf_some e]
  | _ => cases h
theorem kV_rep {K : PySem.W.Frag} {o : Gh} {H : Hp} {v : V} {k : Key} (r : Rep K o H v (keyD k)) : v = kV k := by
  cases k with
  | inl i => exact r.intV
  | inr x => exact r.strV.1
theorem kVs_rep {K : PySem.W.Frag} {o : Gh} {H : Hp} : ∀ {vs : List V} {ks : List Key}, RepAll K o H vs (ks.map keyD) → vs = ks.map kV
  | [], [], _ => rfl
  | _ :: _, [], r => by cases r
  | [], _ :: _, r => by cases r
  | v :: vs, k :: ks, r => by
    cases r with
    | cons _ _ _ _ r1 r2 => rw [kV_rep r1, kVs_rep r2]; rfl
/-- a dict's data against its values -/
theorem dget_rep {K : PySem.W.Frag} {o : Gh} {H : Hp} {κ : Type} [DecidableEq κ] (f : κ → D) (g : κ → Key ⊕ List Key) (hf : ∀ k, keyOf (f k) = some (g k)) (hg : ∀ a b, g a = g b → a = b) (k : κ) :
    ∀ (kvs : List (κ × V)) (ds : List D), RepAll K o H (kvs.map (·.2)) ds →
      (∀ d, dget ((kvs.map (fun p => f p.1)).zip ds) (g k) = some d → ∃ v, valV kvs k = some v ∧ Rep K o H v d) ∧ (dget ((kvs.map (fun p => f p.1)).zip ds) (g k) = none → valV kvs k = none)
  | [], ds, r => ⟨fun d h => by simp [dget] at h, fun _ => rfl⟩
  | p :: kvs, [], r => by cases r
  | p :: kvs, d :: ds, r => by
    cases r with
    | cons _ _ _ _ r1 r2 =>
      obtain ⟨i1, i2⟩ := dget_rep f g hf hg k kvs ds r2
      have e1 : dget (((p :: kvs).map (fun p => f p.1)).zip (d :: ds)) (g k) = if keyOf (f p.1) = some (g k) then some d else dget ((kvs.map (fun p => f p.1)).zip ds) (g k) := by
        unfold dget
        rw [List.map_cons, List.zip_cons_cons, List.find?_cons]
        by_cases h : keyOf (f p.1) = some (g k)
        · rw [decide_eq_true h, if_pos h]; rfl
        · rw [decide_eq_false h, if_neg h]
      rw [e1]
      by_cases h : p.1 = k
      · have h' : keyOf (f p.1) = some (g k) := by rw [hf, h]
        rw [if_pos h']
        exact ⟨fun d' q => by cases q; exact ⟨p.2, valV_pos h, r1⟩, fun q => nomatch q⟩
      · have h' : ¬ keyOf (f p.1) = some (g k) := fun z => by
          rw [hf] at z
          exact h (hg _ _ (Option.some.inj z))
        rw [if_neg h', valV_neg h]
        exact ⟨i1, i2⟩
/-- ints alone of a key -/
def intsK : List Key → Option (List Int)
  | [] => some []
  | .inl i :: ks => (intsK ks).map (i :: ·)
  | _ :: _ => none
def kInts (ns : List Int) : Key ⊕ List Key := .inr (ns.map Sum.inl)
theorem inl_inj : ∀ a b : List Int, a.map (Sum.inl (β := Str)) = b.map Sum.inl → a = b := fun a b h => by
  induction a generalizing b with
  | nil => cases b with
    | nil => rfl
    | cons y b => cases h
  | cons x a ih => cases b with
    | nil => cases h
    | cons y b =>
      rw [List.map_cons, List.map_cons] at h
      injection h with h1 h2
      cases h1
      rw [ih b h2]
theorem kInts_inj : ∀ a b : List Int, kInts a = kInts b → a = b := fun a b h => inl_inj a b (Sum.inr.inj h)
theorem keyOf_ints : ∀ ns : List Int, keyOf (.tuple (ns.map PyData.int)) = some (kInts ns) := fun ns => by
  have : keyOf.keysOf (ns.map PyData.int) = some (ns.map Sum.inl) := by
    induction ns with
    | nil => rfl
    | cons x ns ih =>
      show (keyOf.keysOf (ns.map PyData.int)).map _ = _
      rw [ih]
      rfl
  show (keyOf.keysOf (ns.map PyData.int)).map Sum.inr = _
  rw [this]
  rfl
theorem intsK_some : ∀ {ks : List Key} {ns : List Int}, intsK ks = some ns → ks = ns.map Sum.inl
  | [], ns, h => by cases h; rfl
  | .inl i :: ks, ns, h => by
    have h : (intsK ks).map (i :: ·) = some ns := h
    cases q : intsK ks with
    | none => rw [q] at h; cases h
    | some zs => rw [q] at h; cases h; rw [List.map_cons, intsK_some q]
  | .inr _ :: _, _, h => nomatch h
theorem keysOf_ints : ∀ {ds : List D} {ns : List Int}, keyOf.keysOf ds = some (ns.map Sum.inl) → ds = ns.map PyData.int
  | [], [], _ => rfl
  | [], _ :: _, h => by cases h
  | .int i :: ds, ns, h => by
    have h : (keyOf.keysOf ds).map (.inl i :: ·) = some (ns.map Sum.inl) := h
    cases q : keyOf.keysOf ds with
    | none => rw [q] at h; cases h
    | some zs =>
      rw [q] at h
      cases ns with
      | nil => cases h
      | cons n ns =>
        have h := Option.some.inj h
        rw [List.map_cons] at h
        injection h with h1 h2
        cases h1
        subst h2
        rw [List.map_cons, keysOf_ints q]
  | .str x :: ds, ns, h => by
    have h : (keyOf.keysOf ds).map (.inr x :: ·) = some (ns.map Sum.inl) := h
    cases q : keyOf.keysOf ds with
    | none => rw [q] at h; cases h
    | some zs =>
      rw [q] at h
      cases ns with
      | nil => cases h
      | cons n ns =>
        have h := Option.some.inj h
        rw [List.map_cons] at h
        injection h with h1 h2
        cases h1
  | .none :: _, _, h => nomatch h
  | .bool _ :: _, _, h => nomatch h
  | .list _ :: _, _, h => nomatch h
  | .tuple _ :: _, _, h => nomatch h
  | .dict _ :: _, _, h => nomatch h
theorem keyOf_kInts {kd : D} {ns : List Int} (h : keyOf kd = some (kInts ns)) : kd = .tuple (ns.map PyData.int) := by
  cases kd with
  | tuple ds =>
    have h : (keyOf.keysOf ds).map Sum.inr = some (kInts ns) := h
    cases q : keyOf.keysOf ds with
    | none => rw [q] at h; cases h
    | some zs =>
      rw [q] at h
      have h := Option.some.inj h
      have h : zs = ns.map Sum.inl := Sum.inr.inj h
      subst h
      rw [keysOf_ints q]
  | int i => cases h
  | str x => cases h
  | none => cases h
  | bool _ => cases h
  | list _ => cases h
  | dict _ => cases h
/-! ### a dict whose keys are tuples of ints: the rules -/
section
variable {K : PySem.W.Frag} {H : Hp}
theorem KX.val {kvs : List (List Int × V)} {xs : List (List Int × Addr × Value)} (r : KX K H kvs xs) (k : List Int) : RelO (valV kvs k) ((atKey xs k).map (·.2)) := by
  induction r with
  | nil => exact True.intro
  | @cons p q ps qs h t ih =>
    obtain ⟨h1, _, h2⟩ := h
    by_cases e : p.1 = k
    · have e' : q.1 = k := h1.symm.trans e
      have b : atKey (q :: qs) k = some q.2 := by simp [atKey, List.find?_cons, e']
      rw [valV_pos e, b]; exact h2
    · have e' : ¬ q.1 = k := fun z => e (h1.trans z)
      have b : atKey (q :: qs) k = atKey qs k := by simp [atKey, List.find?_cons, e']
      rw [valV_neg e, b]; exact ih
theorem KX.repl {kvs : List (List Int × V)} {xs : List (List Int × Addr × Value)} (r : KX K H kvs xs) (k : List Int) {y : V} {u : Value} (ry : RelV y u) :
    KX K H (kvs.map fun kv => if kv.1 = k then (kv.1, y) else kv) (xs.map (putAt k u)) := by
  induction r with
  | nil => exact .nil
  | @cons p q ps qs h t ih =>
    rw [List.map_cons, List.map_cons]
    refine .cons ?_ ih
    obtain ⟨h1, h2, h3⟩ := h
    unfold putAt
    by_cases e : p.1 = k
    · rw [if_pos e, if_pos (h1.symm.trans e)]; exact ⟨h1, h2, ry⟩
    · rw [if_neg e, if_neg (fun z => e (h1.trans z))]; exact ⟨h1, h2, h3⟩
theorem KX.put {kvs : List (List Int × V)} {xs : List (List Int × Addr × Value)} (r : KX K H kvs xs) (k : List Int) {b : Addr} {y : V} {u : Value} (hb : SqT K H b (k.map V.int)) (ry : RelV y u) :
    KX K H (putK kvs k y) (storedH xs k b u) := by
  have e : (kvs.any fun kv => decide (kv.1 = k)) = (atKey xs k).isSome := by
    rw [valV_any, (r.val k).isSome_eq, Option.isSome_map]
  unfold putK storedH
  rw [e]
  by_cases q : (atKey xs k).isSome = true
  · rw [if_pos q, if_pos q]; exact r.repl k ry
  · rw [if_neg q, if_neg q]; exact Paired.snoc r ⟨rfl, hb, ry⟩
end
section
open PySem.Spec PyProof.Rows
variable {X : Cx} {pins : List (Addr × Obj)} {σ : L2.St} {H : Hp} {s : Shared} {a b : Addr} {v : V} {u r : Value} {A : Around} {E : Value → Shared → Prop} {kvs : List (List Int × V)} {xs : List (List Int × Addr × Value)} {k : List Int}
theorem items_ints {P : Program} {w : World} : ∀ {ns : List Int} {us : List Value}, Vals (ns.map V.int) us → ItemsAre (PySem.intKind P w) ns us
  | [], _, r => by rw [List.map_nil] at r; cases r; exact .nil
  | k :: ks, _, r => by
    rw [List.map_cons] at r
    cases r with
    | cons h t =>
      obtain ⟨t', q⟩ := (show ∃ t, _ = Value.int k t from h)
      subst q
      exact .cons (by simp [PySem.intKind, Value.isInt]) (items_ints t)
theorem keyX {P : Program} {w : World} (I : Inv X pins σ H s) (e : SqT X.K H b (k.map V.int)) : (tupleKind (PySem.intKind P w)).is s.heap k b := by
  obtain ⟨its, r, ⟨o, h1, h2, n, h3⟩, _⟩ := I.tuple e
  exact ⟨o, its.toArray, n, h1, h2, h3, by simpa using items_ints r⟩
theorem dX (I : Inv X pins σ H s) (e : H a = some (.ext (tdf a xs))) (q : KX X.K H kvs xs) : s.heap.DictOfH (tupleKind (PySem.intKind X.prog X.w)) a xs := by
  obtain ⟨⟨o, es, ep, h1, h2, h3, h4, h5⟩, _⟩ := (show ObjOk X.prog X.w H s.heap a (.ext (tdf a xs)) from I.hok a _ e)
  refine ⟨o, es, ep, h1, h2, h3, h4, fun x hx => ?_, h5⟩
  have all : ∀ {l : List (List Int × V)} {m : List (List Int × Addr × Value)}, KX X.K H l m → ∀ x ∈ m, (tupleKind (PySem.intKind X.prog X.w)).is s.heap x.1 x.2.1 := by
    intro l m q
    induction q with
    | nil => intro x hx; exact nomatch hx
    | @cons p q ps qs hq t ih =>
      intro x hx
      rcases List.mem_cons.mp hx with e | hx
      · subst e
        exact keyX I (by rw [← hq.1]; exact hq.2.1)
      · exact ih x hx
  exact all q x hx
theorem x_in {Q : Value → Shared → Prop} (hu : A.units + 1 < cLine) (I : Inv X pins σ H s) (e : H a = some (.ext (tdf a xs))) (q : KX X.K H kvs xs) (hd : (a == sysModules) = false) (eb : SqT X.K H b (k.map V.int)) (h : ∀ s', Inv X pins σ H s' → Q (.bool (valV kvs k).isSome) s') :
    wpAny (model X.prog X.w) A (compareOp .In (.ref b) (.ref a)) Q E s := by
  refine wpAny_in_heap (tupleKind_room_in1 hu) (keyX I eb) hd (dX I e q) ?_
  have z := (q.val k).isSome_eq
  rw [Option.isSome_map] at z
  rw [← z]
  exact h _ (I.tok _)
theorem x_notIn {Q : Value → Shared → Prop} (hu : A.units + 1 < cLine) (I : Inv X pins σ H s) (e : H a = some (.ext (tdf a xs))) (q : KX X.K H kvs xs) (hd : (a == sysModules) = false) (eb : SqT X.K H b (k.map V.int)) (h : ∀ s', Inv X pins σ H s' → Q (.bool (!(valV kvs k).isSome)) s') :
    wpAny (model X.prog X.w) A (compareOp .NotIn (.ref b) (.ref a)) Q E s := by
  refine wpAny_notIn_heap (tupleKind_room_in1 hu) (keyX I eb) hd (dX I e q) ?_
  have z := (q.val k).isSome_eq
  rw [Option.isSome_map] at z
  rw [← z]
  exact h _ (I.tok _)
theorem x_set {Q : Unit → Shared → Prop} (hu : A.units + 1 < cLine) (I : Inv X pins σ H s) (e : H a = some (.ext (tdf a xs))) (q : KX X.K H kvs xs) (hl : xs.length ≤ sizeLine) (eb : SqT X.K H b (k.map V.int)) (rv : RelV v r)
    (h : ∀ s', Inv X pins σ (upd H a (.ext (tdf a (storedH xs k b r)))) s' → Q () s') : wpAny (model X.prog X.w) A (setItem (.ref a) (.ref b) r) Q E s := by
  refine wpAny_setItem_heap (hsz := hl) (tupleKind_room_in1 hu) (keyX I eb) (dX I e q) fun h' dd' hs => h _ ?_
  obtain ⟨o, es, ep, hq, h2, h3, h4, _, h5⟩ := dd'
  exact d_write I (by rw [e]; exact True.intro) hs ⟨o, hq⟩ ⟨⟨o, es, ep, hq, h2, h3, h4, h5⟩, ⟨o, hq⟩, tdf_stay⟩
end
/-- a key's form against a dict's -/
def fitsT : Key ⊕ List Key → Bool
  | .inr ks => (intsK ks).isSome
  | _ => false
theorem fitsT_ints {k : Key ⊕ List Key} (h : fitsT k = true) : ∃ ns, k = kInts ns := by
  cases k with
  | inl k => cases h
  | inr ks =>
    have h : (intsK ks).isSome = true := h
    obtain ⟨ns, e⟩ := Option.isSome_iff_exists.mp h
    exact ⟨ns, by rw [intsK_some e]; rfl⟩
theorem ints_rep {K : PySem.W.Frag} {o : Gh} {H : Hp} : ∀ {us : List V} {ns : List Int}, RepAll K o H us (ns.map PyData.int) → us = ns.map V.int
  | _, [], .nil => rfl
  | _, n :: ns, r => by
    rw [List.map_cons] at r
    cases r with
    | cons v _ vs _ h1 h2 => rw [List.map_cons, h1.intV, ints_rep h2]
def fits : Bool → Key ⊕ List Key → Bool
  | false, .inl _ => true
  | _, _ => false
/-- what stands at a key of a dict's data -/
def dAt (kvs : List (D × D)) (kd : D) : Option (Option D) := match keyOf kd with
  | some k => if fits (unD kvs).1 k then some (dget (unD kvs).2 k) else none
  | none => none
theorem keyD_inj : ∀ a b : Key, keyD a = keyD b → a = b
  | .inl _, .inl _, h => by cases h; rfl
  | .inr _, .inr _, h => by cases h; rfl
  | .inl _, .inr _, h => by cases h
  | .inr _, .inl _, h => by cases h
def GetR (K : PySem.W.Frag) (o : Gh) (H : Hp) (a : Addr) (y : V) : Option D → Prop
  | some d => ∃ v, DGet H a y (some v) ∧ Rep K o H v d
  | none => DGet H a y none
theorem GetR.of {K : PySem.W.Frag} {o : Gh} {H : Hp} {a : Addr} {y : V} {od : Option D} {r : Option V} (h1 : ∀ d, od = some d → ∃ v, r = some v ∧ Rep K o H v d) (h2 : od = none → r = none) (g : DGet H a y r) : GetR K o H a y od := by
  cases od with
  | some d =>
    obtain ⟨v, e, q⟩ := h1 d rfl
    subst e
    exact ⟨v, g, q⟩
  | none =>
    have e := h2 rfl
    subst e
    exact g
theorem keyV {K : PySem.W.Frag} {o : Gh} {H : Hp} {y : V} {k : Key} {d : D} (r2 : RepU K o H y d) (e : d = keyD k) : y = kV k := by
  cases k with
  | inl i => subst e; exact r2.intV
  | inr x => subst e; exact r2.strV.1
theorem rd_get {K : PySem.W.Frag} {o : Gh} {H : Hp} {x y : V} {kvs : List (D × D)} {kd : D} {od : Option D} (r : RepU K o H x (.dict kvs)) (r2 : RepU K o H y kd) (h : dAt kvs kd = some od) :
    ∃ a, x = .ref a ∧ IsD H a ∧ GetR K o H a y od := by
  obtain ⟨q, a, ks, vs, ds, rfl, hd, _, hz, hl, ra, e⟩ := r.dctV
  have hu := hd.un (ds := ds)
  rw [← e] at hu
  unfold dAt at h
  cases ek : keyOf kd with
  | none => rw [ek] at h; cases h
  | some k =>
    rw [ek, hu] at h
    dsimp only at h
    cases q with
    | false =>
      cases k with
      | inr k => cases h
      | inl k =>
        obtain ⟨kvs', hr, rfl, rfl⟩ := hd
        have h' : dget ((kvs'.map (fun p => keyD p.1)).zip ds) (.inl k) = od := Option.some.inj h
        have ev : y = kV k := keyV r2 (keyOf_inl ek)
        obtain ⟨g1, g2⟩ := dget_rep (fun k => keyD k) (fun k => .inl k) keyOf_key (fun a b h => Sum.inl.inj h) k kvs' ds ra
        rw [h'] at g1 g2
        exact ⟨a, rfl, .inl ⟨kvs', hr⟩, .of g1 g2 (.inl ⟨kvs', k, hr, ev, rfl⟩)⟩
    | true =>
      cases k with
      | inl k => cases h
      | inr k => cases h
/-- k in d, by values -/
def rInDict (K : PySem.W.Frag) (neg : Bool) : R2 := fun y x H Q => ∃ a, x = .ref a ∧ ((∃ o, DGet H a y o ∧ Q (.bl (if neg then !o.isSome else o.isSome)) H) ∨
  ∃ (kvs : List (List Int × V)) (xs : List (List Int × Addr × Value)) (b : Addr) (k : List Int), H a = some (.ext (tdf a xs)) ∧ KX K H kvs xs ∧ (a == sysModules) = false ∧ y = .ref b ∧ SqT K H b (k.map V.int) ∧ Q (.bl (if neg then !(valV kvs k).isSome else (valV kvs k).isSome)) H)
theorem op_in_dict {X : Cx} (hu : X.A.units + 1 < cLine) : OpR X (compareOp .In) (rInDict X.K false) := by
  intro pins s σ H y x u v Q I ry rx h
  obtain ⟨a, rfl, h⟩ := h
  cases (show v = Value.ref a from rx)
  rcases h with ⟨o, g, q⟩ | ⟨kvs, xs, b, k, e, g, hd, ey, eb, q⟩
  · exact d_in hu I g ry fun s' I' => ⟨.bl o.isSome, H, I', rfl, q⟩
  · subst ey
    cases (show u = Value.ref b from ry)
    exact x_in hu I e g hd eb fun s' I' => ⟨.bl (valV kvs k).isSome, H, I', rfl, q⟩
theorem op_notIn_dict {X : Cx} (hu : X.A.units + 1 < cLine) : OpR X (compareOp .NotIn) (rInDict X.K true) := by
  intro pins s σ H y x u v Q I ry rx h
  obtain ⟨a, rfl, h⟩ := h
  cases (show v = Value.ref a from rx)
  rcases h with ⟨o, g, q⟩ | ⟨kvs, xs, b, k, e, g, hd, ey, eb, q⟩
  · exact d_notIn hu I g ry fun s' I' => ⟨.bl (!o.isSome), H, I', rfl, q⟩
  · subst ey
    cases (show u = Value.ref b from ry)
    exact x_notIn hu I e g hd eb fun s' I' => ⟨.bl (!(valV kvs k).isSome), H, I', rfl, q⟩
/-- .. on data -/
def dAtI (kvs : List (D × D)) (kd : D) : Option (Option D) := match keyOf kd with
  | some k => if (fits (unD kvs).1 k || ((unD kvs).1 && fitsT k)) = true then some (dget (unD kvs).2 k) else none
  | none => none
theorem rd_in {K : PySem.W.Frag} {o : Gh} {H : Hp} {x y : V} {kvs : List (D × D)} {kd : D} {od : Option D} {neg : Bool} {Q : VK} (r : RepU K o H x (.dict kvs)) (r2 : RepU K o H y kd) (h : dAtI kvs kd = some od) (q : Q (.bl (if neg then !od.isSome else od.isSome)) H) :
    rInDict K neg y x H Q := by
  cases e0 : dAt kvs kd with
  | some od' =>
    obtain ⟨p, rfl, _, g⟩ := rd_get r r2 e0
    have : od' = od := by
      unfold dAt at e0
      unfold dAtI at h
      cases ek : keyOf kd with
      | none => rw [ek] at h; cases h
      | some k =>
        rw [ek] at h e0
        dsimp only at h e0
        split at e0
        · rename_i hf
          cases e0
          rw [if_pos (by rw [hf]; rfl)] at h
          cases h
          rfl
        · cases e0
    subst this
    refine ⟨p, rfl, .inl ?_⟩
    cases od' with
    | some d =>
      obtain ⟨v, g, _⟩ := g
      exact ⟨_, g, q⟩
    | none => exact ⟨_, g, q⟩
  | none =>
    obtain ⟨qq, a, ks, vs, ds, rfl, hd, _, hz, hl, ra, e⟩ := r.dctV
    have hu := hd.un (ds := ds)
    rw [← e] at hu
    unfold dAtI at h
    unfold dAt at e0
    cases ek : keyOf kd with
    | none => rw [ek] at h; cases h
    | some k =>
      rw [ek, hu] at h e0
      dsimp only at h e0
      have hf : ¬ fits qq k = true := fun z => by rw [if_pos z] at e0; cases e0
      split at h
      · rename_i hc
        rw [Bool.or_eq_true, Bool.and_eq_true] at hc
        rcases hc with hc | ⟨hq, hc⟩
        · exact absurd hc hf
        · subst hq
          obtain ⟨ns, rfl⟩ := fitsT_ints hc
          have h' := Option.some.inj h
          obtain ⟨kvs', xs, hH, kx, hs, rfl, rfl⟩ := hd
          have ey := keyOf_kInts ek
          subst ey
          obtain ⟨b, us, rfl, sb, _, rb⟩ := r2.tupV
          have eu : us = ns.map V.int := ints_rep rb
          subst eu
          obtain ⟨g1, g2⟩ := dget_rep (fun k => .tuple (k.map PyData.int)) kInts keyOf_ints kInts_inj ns kvs' ds ra
          rw [h'] at g1 g2
          have hv : (valV kvs' ns).isSome = od.isSome := by
            cases od with
            | some d => obtain ⟨v, e1, _⟩ := g1 d rfl; rw [e1]; rfl
            | none => rw [g2 rfl]; rfl
          refine ⟨a, rfl, .inr ⟨kvs', xs, b, ns, hH, kx, hs, rfl, sb, ?_⟩⟩
          rw [hv]
          exact q
      · cases h
/-- in, not in: over flat data -/
def flatD : D → Bool
  | .none => true
  | .bool _ => true
  | .int _ => true
  | .str _ => true
  | _ => false
theorem flat_rep {K : PySem.W.Frag} {o : Gh} {H : Hp} {v : V} {d : D} (r : RepU K o H v d) (h : flatD d = true) : flatV v = true := by
  cases r with
  | of _ _ r => cases r <;> first | rfl | cases h
  | lst => cases h
  | dct => cases h
theorem flat_all {K : PySem.W.Frag} {o : Gh} {H : Hp} : ∀ {vs : List V} {ds : List D}, RepAll K o H vs ds → ds.all flatD = true → vs.all flatV = true
  | _, _, .nil, _ => rfl
  | _, _, .cons v d vs ds r ra, h => by
    rw [List.all_cons, Bool.and_eq_true] at h ⊢
    exact ⟨flat_rep (.of _ _ r) h.1, flat_all ra h.2⟩
theorem eqV_rep {K : PySem.W.Frag} {o : Gh} {H : Hp} {v w : V} {d e : D} (r : Rep K o H v d) (r' : RepU K o H w e) (h : flatD d = true) (h' : flatD e = true) : eqV v w = PyData.eqv d e := by
  cases r' with
  | lst => cases h'
  | dct => cases h'
  | of _ _ r' => cases r <;> cases r' <;> first | rfl | (cases h; done) | (cases h'; done) | (simp [eqV, PyData.eqv]; done)
def gIn (neg : Bool) : D → D → Option T
  | a, .list ds => if (flatD a && ds.all flatD) || (eqOk a && eqOk (.list ds)) then some (.val (.bool (if neg then !(ds.any fun d => PyData.eqv d a) else ds.any fun d => PyData.eqv d a))) else none
  | a, .tuple ds => if (flatD a && ds.all flatD) || (eqOk a && eqOk (.tuple ds)) then some (.val (.bool (if neg then !(ds.any fun d => PyData.eqv d a) else ds.any fun d => PyData.eqv d a))) else none
  | kd, .dict kvs => (dAtI kvs kd).map fun o => .val (.bool (if neg then !o.isSome else o.isSome))
  | .str x, .str y => if x.length = 1 then some (.val (.bool (if neg then !decide (x.cps.getD 0 0 ∈ y.cps.toList) else decide (x.cps.getD 0 0 ∈ y.cps.toList)))) else none
  | _, _ => none
theorem inV_rep {K : PySem.W.Frag} {o : Gh} {H : Hp} {v : V} {d : D} (r : RepU K o H v d) (h : flatD d = true) : ∀ {vs : List V} {ds : List D}, RepAll K o H vs ds → ds.all flatD = true → inV v vs = ds.any fun e => PyData.eqv e d
  | _, _, .nil, _ => rfl
  | _, _, .cons w e vs ds r' ra, q => by
    rw [List.all_cons, Bool.and_eq_true] at q
    have ih := inV_rep r h ra q.2
    unfold inV at ih ⊢
    rw [List.any_cons, List.any_cons, ih, eqV_rep r' r q.1 h]
theorem one_sign {x : Str} (h : x.length = 1) : x = ⟨#[x.cps.getD 0 0]⟩ := by
  obtain ⟨⟨l⟩⟩ := x
  match l, h with
  | [c], _ => rfl
/-- in a list, in a tuple: by data -/
def rInS (K : PySem.W.Frag) (neg : Bool) : R2 := fun x y H Q => ∃ (a : Addr) (d : PyData) (ds : List PyData), y = .ref a ∧ ((Dp K H (V.ref a) (.list ds) ∧ SeqAt.shaped (.list ds) = true) ∨ (Dp K H (V.ref a) (.tuple ds) ∧ SeqAt.shaped (.tuple ds) = true)) ∧ Dp K H x d ∧ SeqAt.shaped d = true ∧
  Q (.bl (if neg then !(ds.any fun e => PyData.eqv e d) else ds.any fun e => PyData.eqv e d)) H
theorem items_any {X : Cx} {pins : List (Addr × Obj)} {s : Shared} {σ : St} {H : Hp} (I : Inv X pins σ H s) (hu : X.A.units + 65 < cLine) {x : V} {v : Value} {d : PyData} {ds : List PyData} {vs : List V} {its : List Value} (hy : Dp X.K H x d) (rx : RelV x v) (sd : SeqAt.shaped d = true)
    (hxs : PyData.canLayAll0 ds = true) (ha : DpAll X.K H vs ds) (rv : Vals vs its) :
    (∀ u ∈ its.toArray, SeqAt.EqAt X.A.in1 s u v (PyData.eqv (SeqAt.readOf s.heap u) d)) ∧ (its.toArray.any fun u => PyData.eqv (SeqAt.readOf s.heap u) d) = ds.any fun e => PyData.eqv e d := by
  obtain ⟨bs, r1⟩ := Dp.reads I d x v hy rx
  obtain ⟨as, h4⟩ := Dp.readsAll I ds _ its ha rv
  have hm : its.map (SeqAt.readOf s.heap) = ds := SeqAt.readsAll_map ds its as hxs h4
  refine ⟨SeqAt.items_eqAt (vs := its.toArray) (show ReadsAll s.heap its.toArray.toList ds as from h4) r1 hxs (SeqAt.canLay_of_shaped sd) (PyProof.Rows.room_in_shaped sd hu), ?_⟩
  rw [← hm, List.any_map]
  simp only [List.any_toArray]
  rfl
theorem op_inS {X : Cx} (hu : X.A.units + 65 < cLine) : OpR X (compareOp .In) (rInS X.K false) := by
  intro pins s σ H x y v u Q I rx ry hq
  obtain ⟨b, d, ds, rfl, hb, hx, sd, q⟩ := hq
  cases (show u = Value.ref b from ry)
  rcases hb with ⟨hb, sb⟩ | ⟨hb, sb⟩
  · cases hb with
    | lst hs ha =>
      obtain ⟨its, rv, pl, _⟩ := I.list hs
      obtain ⟨g1, g2⟩ := items_any I hu hx rx sd (SeqAt.canLay_of_shaped sb) ha rv
      refine SeqAt.in_listAt _ pl.isList g1 ⟨.bl _, H, I, rfl, ?_⟩
      rw [g2]
      exact q
  · cases hb with
    | tup hs ha =>
      obtain ⟨its, rv, pl, _⟩ := I.tuple hs
      obtain ⟨g1, g2⟩ := items_any I hu hx rx sd (SeqAt.canLay_of_shaped sb) ha rv
      refine SeqAt.in_tupleAt _ pl g1 ⟨.bl _, H, I, rfl, ?_⟩
      rw [g2]
      exact q
theorem op_notInS {X : Cx} (hu : X.A.units + 65 < cLine) : OpR X (compareOp .NotIn) (rInS X.K true) := by
  intro pins s σ H x y v u Q I rx ry hq
  obtain ⟨b, d, ds, rfl, hb, hx, sd, q⟩ := hq
  cases (show u = Value.ref b from ry)
  rcases hb with ⟨hb, sb⟩ | ⟨hb, sb⟩
  · cases hb with
    | lst hs ha =>
      obtain ⟨its, rv, pl, _⟩ := I.list hs
      obtain ⟨g1, g2⟩ := items_any I hu hx rx sd (SeqAt.canLay_of_shaped sb) ha rv
      refine SeqAt.notIn_listAt _ pl.isList g1 ⟨.bl _, H, I, rfl, ?_⟩
      rw [g2]
      exact q
  · cases hb with
    | tup hs ha =>
      obtain ⟨its, rv, pl, _⟩ := I.tuple hs
      obtain ⟨g1, g2⟩ := items_any I hu hx rx sd (SeqAt.canLay_of_shaped sb) ha rv
      refine SeqAt.notIn_tupleAt _ pl g1 ⟨.bl _, H, I, rfl, ?_⟩
      rw [g2]
      exact q
def rInD (K : PySem.W.Frag) (neg : Bool) : R2 := fun x y H Q => ((rIn K neg x y H Q ∨ rInDict K neg x y H Q) ∨ rInS K neg x y H Q) ∨ ∃ (c : Nat) (z : Str), x = .str ⟨#[c]⟩ ∧ y = .str z ∧ Q (.bl (if neg then !decide (c ∈ z.cps.toList) else decide (c ∈ z.cps.toList))) H
theorem opd_in (K : PySem.W.Frag) (neg : Bool) : OpD K (rInD K neg) (gIn neg) := by
  intro G W o c ρ S σ H x y a b t Q hK rs r1 r2 e q
  subst hK
  unfold gIn at e
  split at e
  · split at e
    · cases e
      rename_i h
      rw [Bool.or_eq_true, Bool.and_eq_true, Bool.and_eq_true] at h
      rcases h with h | h
      · obtain ⟨a2, v2, e2, h2, n2, z2, q2⟩ := r2.lstV
        rw [e2]
        refine .inl (.inl (.inl ⟨a2, v2, rfl, .inl (.of h2), flat_rep r1 h.1, flat_all q2 h.2, ?_⟩))
        rw [inV_rep r1 h.1 q2 h.2]
        exact post_val rs q (.bl _)
      · have n1 := h.1
        have n2 := h.2
        unfold eqOk at n1 n2
        rw [Bool.and_eq_true] at n1 n2
        obtain ⟨a2, v2, e2, _⟩ := r2.lstV
        subst e2
        exact .inl (.inr ⟨a2, _, _, rfl, .inl ⟨r2.dp n2.1, eqOk_shaped r2 h.2⟩, r1.dp n1.1, eqOk_shaped r1 h.1, post_val rs q (.bl _)⟩)
    · cases e
  · split at e
    · cases e
      rename_i h
      rw [Bool.or_eq_true, Bool.and_eq_true, Bool.and_eq_true] at h
      rcases h with h | h
      · obtain ⟨a2, v2, e2, h2, z2, q2⟩ := r2.tupV
        rw [e2]
        refine .inl (.inl (.inl ⟨a2, v2, rfl, .inr h2, flat_rep r1 h.1, flat_all q2 h.2, ?_⟩))
        rw [inV_rep r1 h.1 q2 h.2]
        exact post_val rs q (.bl _)
      · have n1 := h.1
        have n2 := h.2
        unfold eqOk at n1 n2
        rw [Bool.and_eq_true] at n1 n2
        obtain ⟨a2, v2, e2, _⟩ := r2.tupV
        subst e2
        exact .inl (.inr ⟨a2, _, _, rfl, .inr ⟨r2.dp n2.1, eqOk_shaped r2 h.2⟩, r1.dp n1.1, eqOk_shaped r1 h.1, post_val rs q (.bl _)⟩)
    · cases e
  · rename_i kvs
    cases e1 : dAtI kvs a with
    | none => rw [e1] at e; cases e
    | some od =>
      rw [e1] at e
      cases e
      exact .inl (.inl (.inr (rd_in r2 r1 e1 (post_val rs q (.bl _)))))
  · split at e
    · cases e
      rename_i h
      obtain ⟨e1, o1, l1⟩ := r1.strV
      obtain ⟨e2, o2, l2⟩ := r2.strV
      rw [e1, e2]
      exact .inr ⟨_, _, by rw [← one_sign h], rfl, post_val rs q (.bl _)⟩
    · cases e
  · cases e
theorem in1_room (k : G.Ok X W) : X.A.units + 65 < cLine := by
  have := k.room.un
  omega
theorem cr_in : CR G .In (gIn false) := ⟨rInD G.K false, fun X W k => by
  have h := op_in_seq (X := X)
  have h2 := op_inS (X := X) (in1_room k)
  have h3 := op_in_dict (X := X) (by have := k.units; omega)
  rw [k.K] at h h2 h3
  exact ((h.or h3).or h2).or op_in_sign, opd_in _ _⟩
theorem cr_notIn : CR G .NotIn (gIn true) := ⟨rInD G.K true, fun X W k => by
  have h := op_notIn_seq (X := X)
  have h2 := op_notInS (X := X) (in1_room k)
  have h3 := op_notIn_dict (X := X) (by have := k.units; omega)
  rw [k.K] at h h2 h3
  exact ((h.or h3).or h2).or op_notIn_sign, opd_in _ _⟩
def isNone : D → Bool
  | .none => true
  | _ => false
def gIsN : D → Option T := fun d => some (.val (.bool (isNone d)))
def gNotN : D → Option T := fun d => some (.val (.bool (!isNone d)))
theorem isNone_rep {K : PySem.W.Frag} {o : Gh} {H : Hp} {v : V} {d : D} (r : RepU K o H v d) : decide (v = .non) = isNone d := by
  cases r with
  | of _ _ r => cases r <;> rfl
  | lst => rfl
  | dct => rfl
theorem ev_isN {a : Expr} {f1 : SE} {j : Nat} {pos' : Pos} (h1 : UV G a f1) : EV G (.Compare a [.Is] [.Constant .none j pos'] pos) (cUn gIsN f1) := by
  obtain ⟨t1, p1, q1⟩ := h1
  refine ⟨fun W => tIsN (t1 W), fun X W k => pe_cmp (pc_isN (p1 X W k)) rfl, fun W σ H ρ S o c Q nt rs p => ?_⟩
  refine (q1 W).d nt rs p fun a S1 v1 o1 c1 H1 s1 nt1 rs1 r1 p1 => ?_
  rw [isNone_rep r1]
  exact post_val rs1 p1 (.bl _)
theorem ev_notN {a : Expr} {f1 : SE} {j : Nat} {pos' : Pos} (h1 : UV G a f1) : EV G (.Compare a [.IsNot] [.Constant .none j pos'] pos) (cUn gNotN f1) := by
  obtain ⟨t1, p1, q1⟩ := h1
  refine ⟨fun W => tNotN (t1 W), fun X W k => pe_cmp (pc_notN (p1 X W k)) rfl, fun W σ H ρ S o c Q nt rs p => ?_⟩
  refine (q1 W).d nt rs p fun a S1 v1 o1 c1 H1 s1 nt1 rs1 r1 p1 => ?_
  rw [isNone_rep r1]
  exact post_val rs1 p1 (.bl _)
end
end BV
/-! The by-value calculus: tests, and/or/not, displays, subscripts, slices, calls of built-ins and of defs. -/
namespace BV
open PySem L2

/-! ### truth -/
def truD : D → Option Bool
  | .none => some false
  | .bool b => some b
  | .int i => some (i != 0)
  | .str x => some (x.length != 0)
  | .list xs => some (!xs.isEmpty)
  | .tuple xs => some (!xs.isEmpty)
  | .dict _ => none
theorem empty_rep {K : PySem.W.Frag} {o : Gh} {H : Hp} {vs : List V} {ds : List D} (r : RepAll K o H vs ds) : vs.isEmpty = ds.isEmpty := by
  cases r <;> rfl
theorem tru_rep {K : PySem.W.Frag} {o : Gh} {H : Hp} {v : V} {d : D} {b : Bool} (r : RepU K o H v d) (h : truD d = some b) : TruV K v H b := by
  cases d with
  | none => cases h; rw [r.nonV]; rfl
  | bool c => cases h; rw [r.blV]; rfl
  | int i => cases h; rw [r.intV]; rfl
  | str x =>
    obtain ⟨e, _, z⟩ := r.strV
    cases h
    rw [e]
    refine ⟨z, ?_⟩
    rw [Bool.eq_iff_iff]
    simp
  | list xs =>
    obtain ⟨a, vs, e, h1, _, _, ra⟩ := r.lstV
    cases h
    rw [e]
    exact .inl ⟨vs, .of h1, by rw [empty_rep ra]⟩
  | tuple xs =>
    obtain ⟨a, vs, e, h1, _, ra⟩ := r.tupV
    cases h
    rw [e]
    exact .inr (.inl ⟨vs, h1, by rw [empty_rep ra]⟩)
  | dict _ => cases h

/-! ### tests -/
abbrev SB := En → Sto → R Bool
def PostB (G : Cc) (W : WX) (o : Gh) (c : Cs) (ρ : En) (σ : L2.St) (H : Hp) (r : R Bool) (Q : Bool → Hp → Prop) : Prop := match r with
  | .ok b S' => ∀ o' c' H', Step isCell o c H o' c' H' → NT o' → RS G.K o' c' ρ S' σ H' → Q b H'
  | .exc e S' => ∀ cls d o' c' H', Step isCell o c H o' c' H' → RS G.K o' c' ρ S' σ H' → NT o' → ExcR G.mg H' cls d e → W cls d σ H'
  | .bad => False
def TR (G : Cc) (W : WX) (t : TT) (f : SB) : Prop := ∀ (σ : L2.St) (H : Hp) (ρ : En) (S : Sto) (o : Gh) (c : Cs) (Q : Bool → Hp → Prop), NT o → RS G.K o c ρ S σ H → PostB G W o c ρ σ H (f ρ S) Q → t σ H Q
def TV (G : Cc) (e : Expr) (f : SB) : Prop := ∃ t : WX → TT, (∀ X W, G.Ok X W → PT X e (t W)) ∧ ∀ W, TR G W (t W) f
def WV (G : Cc) (e : Expr) (f : SB) : Prop := ∃ t : WX → TT, (∀ X W, G.Ok X W → PW X e (t W)) ∧ ∀ W, TR G W (t W) f
def R.b (r : R T) : R Bool := match r with
  | .ok t S => (match asD t with | some (.bool b) => .ok b S | _ => .bad)
  | .exc e S => .exc e S
  | .bad => .bad
/-- the truth of a value -/
def R.tr (r : R T) : R Bool := match r with
  | .ok t S => (match (asD t).bind truD with | some b => .ok b S | none => .bad)
  | .exc e S => .exc e S
  | .bad => .bad
def cT (f : SE) : SB := fun ρ S => (f ρ S).tr
section
variable {G : Cc} {W : WX} {o o1 : Gh} {c c1 : Cs} {ρ : En} {σ : L2.St} {H H1 : Hp} {pos : Pos} {a b : Expr} {f1 f2 f3 : SE} {g1 g2 : SB} {e : Expr}
theorem PostB.step {r : R Bool} {Q : Bool → Hp → Prop} (a : Step isCell o c H o1 c1 H1) (h : PostB G W o c ρ σ H r Q) : PostB G W o1 c1 ρ σ H1 r Q := by
  cases r with
  | ok t S' => exact fun o' c' H' s => h o' c' H' (a.trans s)
  | exc e S' => exact fun cls d o' c' H' s => h cls d o' c' H' (a.trans s)
  | bad => exact h
/-- an operand's truth -/
theorem TR.of {t : TE} {f : SE} (h : URd G W t f) : TR G W (fun σ H Q => t σ H fun x H' => ∃ k, TruV G.K x H' k ∧ Q k H') (cT f) := by
  intro σ H ρ S o c Q nt rs p
  refine h σ H ρ S o c _ nt rs ?_
  unfold cT at p
  cases e : f ρ S with
  | bad => rw [e] at p; exact p.elim
  | exc e' S' => rw [e] at p; exact p
  | ok t0 S' =>
    rw [e] at p
    cases e1 : asD t0 with
    | none => unfold R.tr at p; simp only [e1, Option.bind_none] at p; exact p.elim
    | some d0 =>
      refine ⟨d0, e1, ?_⟩
      cases e2 : truD d0 with
      | none => unfold R.tr at p; simp only [e1, Option.bind_some, e2] at p; exact p.elim
      | some b0 =>
        have p' : PostB G W o c ρ σ H (.ok b0 S') Q := by unfold R.tr at p; simp only [e1, Option.bind_some, e2] at p; exact p
        exact fun v o1 c1 H1 s1 nt1 rs1 r1 => ⟨b0, tru_rep r1 e2, p' o1 c1 H1 s1 nt1 rs1⟩
/-- a comparison as a test -/
def cB (f : SE) : SB := fun ρ S => (f ρ S).b
theorem TR.test {t : TE} {f : SE} (h : ER G W t f) : TR G W (tTest t) (cB f) := by
  intro σ H ρ S o c Q nt rs p
  refine h σ H ρ S o c _ nt rs ?_
  unfold cB at p
  cases e : f ρ S with
  | bad => rw [e] at p; exact p.elim
  | exc e' S' => rw [e] at p; exact p
  | ok t0 S' =>
    rw [e] at p
    intro v o' c' H' s rs' r'
    cases e1 : asD t0 with
    | none => unfold R.b at p; simp only [e1] at p; exact p.elim
    | some d0 =>
      have r2 := r'.toD rs'.cs.trk e1
      cases d0 with
      | bool b =>
        have p' : PostB G W o c ρ σ H (.ok b S') Q := by unfold R.b at p; simp only [e1] at p; exact p
        exact ⟨b, r2.blV, p' (unT o') c' H' (s.untmp nt) unT_nt rs'.untmp⟩
      | _ => unfold R.b at p; simp only [e1] at p; exact p.elim
theorem tv_truth (h : UV G e f1) (he : ∀ env whole, isTrue e env whole = (do let v ← whole; standAt e.pos; holding [v] (truthy v)) := by intro _ _; rfl) : TV G e (cT f1) := by
  obtain ⟨t, p, q⟩ := h
  refine ⟨fun W σ H Q => t W σ H fun x H' => ∃ k, TruV G.K x H' k ∧ Q k H', fun X W k => ?_, fun W => .of (q W)⟩
  have := pt_truth (p X W k) (he _)
  rw [k.K] at this
  exact this
theorem tv_cmp {op : CmpOp} {g : D → D → Option T} (hr : CR G op g) (h1 : UV G a f1) (h2 : UV G b f2) (hm : behindInMarks op b = false := by rfl) : TV G (.Compare a [op] [b] pos) (cB (cBin g f1 f2)) := by
  obtain ⟨t1, p1, q1⟩ := h1
  obtain ⟨t2, p2, q2⟩ := h2
  obtain ⟨r, ho, hr⟩ := hr
  exact ⟨fun W => tTest (tOp r (t1 W) (t2 W)), fun X W k => pt_cmpR (ho X W k) (p1 X W k) (p2 X W k) hm, fun W => .test (er_bin (q1 W) (q2 W) hr)⟩
theorem er_isN {W : WX} {t1 : TE} (h : URd G W t1 f1) : ER G W (tIsN t1) (cUn gIsN f1) := by
  intro σ H ρ S o c Q nt rs p
  refine h.d nt rs p fun a S1 v1 o1 c1 H1 s1 nt1 rs1 r1 p1 => ?_
  rw [isNone_rep r1]
  exact post_val rs1 p1 (.bl _)
theorem er_notN {W : WX} {t1 : TE} (h : URd G W t1 f1) : ER G W (tNotN t1) (cUn gNotN f1) := by
  intro σ H ρ S o c Q nt rs p
  refine h.d nt rs p fun a S1 v1 o1 c1 H1 s1 nt1 rs1 r1 p1 => ?_
  rw [isNone_rep r1]
  exact post_val rs1 p1 (.bl _)
theorem tv_isN {j : Nat} {pos' : Pos} (h1 : UV G a f1) : TV G (.Compare a [.Is] [.Constant .none j pos'] pos) (cB (cUn gIsN f1)) := by
  obtain ⟨t1, p1, q1⟩ := h1
  exact ⟨fun W => tB (tIsN (t1 W)), fun X W k => pt_cmp (pc_isN (p1 X W k)) rfl, fun W => .test (er_isN (q1 W))⟩
theorem tv_notN {j : Nat} {pos' : Pos} (h1 : UV G a f1) : TV G (.Compare a [.IsNot] [.Constant .none j pos'] pos) (cB (cUn gNotN f1)) := by
  obtain ⟨t1, p1, q1⟩ := h1
  exact ⟨fun W => tB (tNotN (t1 W)), fun X W k => pt_cmp (pc_notN (p1 X W k)) rfl, fun W => .test (er_notN (q1 W))⟩
/-- a op b op c -/
def cChain (g g' : D → D → Option T) (f1 f2 f3 : SE) : SE := fun ρ S => R.d (f1 ρ S) fun x S1 => R.d (f2 ρ S1) fun y S2 => match g x y with
  | some (.val (.bool true)) => R.d (f3 ρ S2) fun z S3 => (match g' y z with | some t => .ok t S3 | none => .bad)
  | some (.val (.bool false)) => .ok (.val (.bool false)) S2
  | _ => .bad
theorem er_chain {W : WX} {t1 t2 t3 : TE} {r r' : R2} {g g' : D → D → Option T} (h1 : URd G W t1 f1) (h2 : URd G W t2 f2) (h3 : URd G W t3 f3) (hr : OpD G.K r g) (hr' : OpD G.K r' g') : ER G W (tChain r r' t1 t2 t3) (cChain g g' f1 f2 f3) := by
  intro σ H ρ S o c Q nt rs p
  refine h1.d nt rs p fun a S1 v1 o1 c1 H1 s1 nt1 rs1 r1 p1 => ?_
  refine h2.d nt1 rs1 p1 fun b S2 v2 o2 c2 H2 s2 nt2 rs2 r2 p2 => ?_
  have r1' := r1.step rs1.cs.trk s2
  cases e : g a b with
  | none => simp only [e] at p2; exact p2.elim
  | some t =>
    simp only [e] at p2
    refine hr G W o2 c2 ρ S2 σ H2 v1 v2 a b t _ rfl rs2 r1' r2 e ?_
    intro v o3 c3 H3 s3 rs3 r3
    match t, p2, r3 with
    | .val (.bool true), p2, r3 =>
      have e3 : v = .bl true := (r3 : Rep G.K o3 H3 v _).blV
      have s3' := s3.untmp nt2
      refine ⟨true, e3, ?_⟩
      rw [if_pos rfl]
      refine h3.d unT_nt rs3.untmp (p2.step s3') fun d S3 v3 o4 c4 H4 s4 nt4 rs4 r4 p4 => ?_
      cases e5 : g' b d with
      | none => rw [e5] at p4; exact p4.elim
      | some t' =>
        rw [e5] at p4
        exact hr' G W o4 c4 ρ S3 σ H4 v2 v3 b d t' Q rfl rs4 ((r2.step rs2.cs.trk s3').step rs3.untmp.cs.trk s4) r4 e5 p4
    | .val (.bool false), p2, r3 =>
      have e3 : v = .bl false := (r3 : Rep G.K o3 H3 v _).blV
      refine ⟨false, e3, ?_⟩
      rw [if_neg Bool.false_ne_true]
      exact post_val rs3.untmp (p2.step (s3.untmp nt2)) (.bl false)
theorem ev_chain {op op' : CmpOp} {cc : Expr} {g g' : D → D → Option T} (hr : CR G op g) (hr' : CR G op' g') (h1 : UV G a f1) (h2 : UV G b f2) (h3 : UV G cc f3) (hm : lastMarks [op, op'] [b, cc] = false := by with_unfolding_all rfl) :
    EV G (.Compare a [op, op'] [b, cc] pos) (cChain g g' f1 f2 f3) := by
  obtain ⟨t1, p1, q1⟩ := h1
  obtain ⟨t2, p2, q2⟩ := h2
  obtain ⟨t3, p3, q3⟩ := h3
  obtain ⟨r, ho, hr⟩ := hr
  obtain ⟨r', ho', hr'⟩ := hr'
  exact ⟨fun W => tChain r r' (t1 W) (t2 W) (t3 W), fun X W k => pe_chain (ho X W k) (ho' X W k) (p1 X W k) (p2 X W k) (p3 X W k) hm, fun W => er_chain (q1 W) (q2 W) (q3 W) hr hr'⟩
theorem tv_chain {op op' : CmpOp} {cc : Expr} {g g' : D → D → Option T} (hr : CR G op g) (hr' : CR G op' g') (h1 : UV G a f1) (h2 : UV G b f2) (h3 : UV G cc f3) (hm : lastMarks [op, op'] [b, cc] = false := by with_unfolding_all rfl) :
    TV G (.Compare a [op, op'] [b, cc] pos) (cB (cChain g g' f1 f2 f3)) := by
  obtain ⟨t1, p1, q1⟩ := h1
  obtain ⟨t2, p2, q2⟩ := h2
  obtain ⟨t3, p3, q3⟩ := h3
  obtain ⟨r, ho, hr⟩ := hr
  obtain ⟨r', ho', hr'⟩ := hr'
  exact ⟨fun W => tTest (tChain r r' (t1 W) (t2 W) (t3 W)), fun X W k => pt_chain (ho X W k) (ho' X W k) (p1 X W k) (p2 X W k) (p3 X W k) hm, fun W => .test (er_chain (q1 W) (q2 W) (q3 W) hr hr')⟩

/-! ### and, or, not in tests -/
def bAnd (g1 g2 : SB) : SB := fun ρ S => R.l (g1 ρ S) fun b S1 => if b = true then g2 ρ S1 else .ok false S1
def bOr (g1 g2 : SB) : SB := fun ρ S => R.l (g1 ρ S) fun b S1 => if b = true then .ok true S1 else g2 ρ S1
def bNot (g1 : SB) : SB := fun ρ S => R.l (g1 ρ S) fun b S1 => .ok (!b) S1
/-- a test, then the rest -/
theorem TR.l {t : TT} (h : TR G W t g1) {S : Sto} {k : Bool → Sto → R Bool} {Q Q0 : Bool → Hp → Prop} (nt : NT o) (rs : RS G.K o c ρ S σ H) (p : PostB G W o c ρ σ H (R.l (g1 ρ S) k) Q0)
    (q : ∀ b S1 o1 c1 H1, Step isCell o c H o1 c1 H1 → NT o1 → RS G.K o1 c1 ρ S1 σ H1 → PostB G W o1 c1 ρ σ H1 (k b S1) Q0 → Q b H1) : t σ H Q := by
  refine h σ H ρ S o c Q nt rs ?_
  cases e : g1 ρ S with
  | ok b S1 => rw [e] at p; exact fun o' c' H' s nt' rs' => q b S1 o' c' H' s nt' rs' (PostB.step s p)
  | exc e S1 => rw [e] at p; exact p
  | bad => rw [e] at p; exact p
theorem TR.ee {t : TT} (h : TR G W t g1) {S : Sto} {k : Bool → Sto → R T} {Q : Bool → Hp → Prop} {Q0 : VK} (nt : NT o) (rs : RS G.K o c ρ S σ H) (p : PostE G W o c ρ σ H (R.l (g1 ρ S) k) Q0)
    (q : ∀ b S1 o1 c1 H1, Step isCell o c H o1 c1 H1 → NT o1 → RS G.K o1 c1 ρ S1 σ H1 → PostE G W o1 c1 ρ σ H1 (k b S1) Q0 → Q b H1) : t σ H Q := by
  refine h σ H ρ S o c Q nt rs ?_
  cases e : g1 ρ S with
  | ok b S1 => rw [e] at p; exact fun o' c' H' s nt' rs' => q b S1 o' c' H' s nt' rs' (PostE.step s p)
  | exc e S1 => rw [e] at p; exact p
  | bad => rw [e] at p; exact p
theorem WV.t (h : WV G e g1) : TV G e g1 := by
  obtain ⟨t, p, q⟩ := h
  exact ⟨t, fun X W k => (p X W k).pt, q⟩
theorem wv_and1 (h : TV G a g1) : WV G (.BoolOp .And [a] pos) g1 := by
  obtain ⟨t, p, q⟩ := h
  exact ⟨t, fun X W k => pw_and1 (p X W k), q⟩
theorem wv_or1 (h : TV G a g1) : WV G (.BoolOp .Or [a] pos) g1 := by
  obtain ⟨t, p, q⟩ := h
  exact ⟨t, fun X W k => pw_or1 (p X W k), q⟩
theorem wv_and {rest : List Expr} (h1 : TV G a g1) (h2 : WV G (.BoolOp .And (b :: rest) pos) g2) : WV G (.BoolOp .And (a :: b :: rest) pos) (bAnd g1 g2) := by
  obtain ⟨t1, p1, q1⟩ := h1
  obtain ⟨t2, p2, q2⟩ := h2
  refine ⟨fun W => tAnd (t1 W) (t2 W), fun X W k => pw_and (p1 X W k) (p2 X W k), fun W σ H ρ S o c Q nt rs p => ?_⟩
  refine (q1 W).l nt rs p fun b S1 o1 c1 H1 s1 nt1 rs1 p1 => ?_
  cases b with
  | true => rw [if_pos rfl] at p1 ⊢; exact q2 W σ H1 ρ S1 o1 c1 Q nt1 rs1 p1
  | false => rw [if_neg Bool.false_ne_true] at p1 ⊢; exact p1 o1 c1 H1 Step.refl nt1 rs1
theorem wv_or {rest : List Expr} (h1 : TV G a g1) (h2 : WV G (.BoolOp .Or (b :: rest) pos) g2) : WV G (.BoolOp .Or (a :: b :: rest) pos) (bOr g1 g2) := by
  obtain ⟨t1, p1, q1⟩ := h1
  obtain ⟨t2, p2, q2⟩ := h2
  refine ⟨fun W => tOr (t1 W) (t2 W), fun X W k => pw_or (p1 X W k) (p2 X W k), fun W σ H ρ S o c Q nt rs p => ?_⟩
  refine (q1 W).l nt rs p fun b S1 o1 c1 H1 s1 nt1 rs1 p1 => ?_
  cases b with
  | false => rw [if_neg Bool.false_ne_true] at p1 ⊢; exact q2 W σ H1 ρ S1 o1 c1 Q nt1 rs1 p1
  | true => rw [if_pos rfl] at p1 ⊢; exact p1 o1 c1 H1 Step.refl nt1 rs1
theorem tv_not (h1 : TV G a g1) : TV G (.UnaryOp .Not a pos) (bNot g1) := by
  obtain ⟨t1, p1, q1⟩ := h1
  refine ⟨fun W => tNot (t1 W), fun X W k => pt_not (p1 X W k), fun W σ H ρ S o c Q nt rs p => ?_⟩
  exact (q1 W).l nt rs p fun b S1 o1 c1 H1 s1 nt1 rs1 p1 => p1 o1 c1 H1 Step.refl nt1 rs1

/-! ### .. as values -/
def vAnd (f1 f2 : SE) : SE := fun ρ S => R.d (f1 ρ S) fun d S1 => match truD d with
  | some true => f2 ρ S1
  | some false => .ok (.val d) S1
  | none => .bad
def vOr (f1 f2 : SE) : SE := fun ρ S => R.d (f1 ρ S) fun d S1 => match truD d with
  | some false => f2 ρ S1
  | some true => .ok (.val d) S1
  | none => .bad
def vNot (f1 : SE) : SE := cUn (fun d => (truD d).map fun b => .val (.bool (!b))) f1
theorem ev_one {op : BoolOp} (h : EV G a f1) : EV G (.BoolOp op [a] pos) f1 := by
  obtain ⟨t, p, q⟩ := h
  exact ⟨t, fun X W k => pe_one (p X W k), q⟩
theorem ev_and {rest : List Expr} (h1 : EV G a f1) (h2 : EV G (.BoolOp .And (b :: rest) pos) f2) : EV G (.BoolOp .And (a :: b :: rest) pos) (vAnd f1 f2) := by
  obtain ⟨t1, p1, q1⟩ := h1
  obtain ⟨t2, p2, q2⟩ := h2
  refine ⟨fun W => tAndT G.K (t1 W) (t2 W), fun X W k => by have := pe_andT (p1 X W k) (p2 X W k); rw [k.K] at this; exact this, fun W σ H ρ S o c Q nt rs p => ?_⟩
  refine (q1 W).d nt rs p fun d S1 v o1 c1 H1 s1 nt1 rs1 r1 p1 => ?_
  cases e : truD d with
  | none => rw [e] at p1; exact p1.elim
  | some b =>
    rw [e] at p1
    refine ⟨b, tru_rep (.of _ _ r1) e, ?_⟩
    cases b with
    | true => rw [if_pos rfl]; exact q2 W σ H1 ρ S1 o1 c1 Q nt1 rs1 p1
    | false => rw [if_neg Bool.false_ne_true]; exact post_val rs1 p1 r1
theorem ev_or {rest : List Expr} (h1 : EV G a f1) (h2 : EV G (.BoolOp .Or (b :: rest) pos) f2) : EV G (.BoolOp .Or (a :: b :: rest) pos) (vOr f1 f2) := by
  obtain ⟨t1, p1, q1⟩ := h1
  obtain ⟨t2, p2, q2⟩ := h2
  refine ⟨fun W => tOrT G.K (t1 W) (t2 W), fun X W k => by have := pe_orT (p1 X W k) (p2 X W k); rw [k.K] at this; exact this, fun W σ H ρ S o c Q nt rs p => ?_⟩
  refine (q1 W).d nt rs p fun d S1 v o1 c1 H1 s1 nt1 rs1 r1 p1 => ?_
  cases e : truD d with
  | none => rw [e] at p1; exact p1.elim
  | some b =>
    rw [e] at p1
    refine ⟨b, tru_rep (.of _ _ r1) e, ?_⟩
    cases b with
    | false => rw [if_neg Bool.false_ne_true]; exact q2 W σ H1 ρ S1 o1 c1 Q nt1 rs1 p1
    | true => rw [if_pos rfl]; exact post_val rs1 p1 r1
theorem ev_not (h1 : UV G a f1) : EV G (.UnaryOp .Not a pos) (vNot f1) := by
  obtain ⟨t1, p1, q1⟩ := h1
  refine ⟨fun W => tNotT G.K (t1 W), fun X W k => by have := pe_notT (pos := pos) (p1 X W k); rw [k.K] at this; exact this, fun W σ H ρ S o c Q nt rs p => ?_⟩
  refine (q1 W).d nt rs p fun d S1 v o1 c1 H1 s1 nt1 rs1 r1 p1 => ?_
  cases e : truD d with
  | none => simp only [e, Option.map_none] at p1; exact p1.elim
  | some b =>
    simp only [e, Option.map_some] at p1
    exact ⟨b, tru_rep r1 e, post_val rs1 p1 (.bl _)⟩
def cIf (g : SB) (f1 f2 : SE) : SE := fun ρ S => R.l (g ρ S) fun b S1 => if b = true then f1 ρ S1 else f2 ρ S1
theorem ev_if {cc : Expr} (h : TV G cc g1) (h1 : EV G a f1) (h2 : EV G b f2) : EV G (.IfExp cc a b pos) (cIf g1 f1 f2) := by
  obtain ⟨t, p, q⟩ := h
  obtain ⟨t1, p1, q1⟩ := h1
  obtain ⟨t2, p2, q2⟩ := h2
  refine ⟨fun W => tIf (t W) (t1 W) (t2 W), fun X W k => pe_ifExp (p X W k) (p1 X W k) (p2 X W k), fun W σ H ρ S o c Q nt rs ps => ?_⟩
  refine (q W).ee nt rs ps fun b S1 o1 c1 H1 s1 nt1 rs1 p1 => ?_
  cases b with
  | true => rw [if_pos rfl] at p1 ⊢; exact q1 W σ H1 ρ S1 o1 c1 Q nt1 rs1 p1
  | false => rw [if_neg Bool.false_ne_true] at p1 ⊢; exact q2 W σ H1 ρ S1 o1 c1 Q nt1 rs1 p1
end
end BV
/-! The by-value calculus: displays, subscripts, slices, built-ins, calls of defs. -/
namespace BV
open PySem L2

/-! ### displays -/
def allD : List T → Option (List D)
  | [] => some []
  | .val d :: ts => (allD ts).map (d :: ·)
  | _ :: _ => none
theorem RepTs.all {K : PySem.W.Frag} {o : Gh} {c : Cs} {H : Hp} : ∀ {vs : List V} {ts : List T} {ds : List D}, RepTs K o c H vs ts → allD ts = some ds → RepAll K o H vs ds
  | [], [], _, _, e => by cases e; exact .nil
  | v :: vs, [], _, r, _ => by have := r.1; simp at this
  | [], t :: ts, _, r, _ => by have := r.1; simp at this
  | v :: vs, t :: ts, ds, r, e => by
    have h0 := (r.2 0 v t rfl rfl).1
    cases t with
    | val d =>
      cases e1 : allD ts with
      | none => simp only [allD, e1, Option.map_none] at e; cases e
      | some es =>
        simp only [allD, e1, Option.map_some] at e
        cases e
        exact .cons v d vs es h0 (RepTs.all ⟨by have := r.1; simpa using this, fun i v t e1 e2 => r.2 (i + 1) v t (by simpa using e1) (by simpa using e2)⟩ e1)
    | _ => cases e
def cList (fs : SA) : SE := fun ρ S => R.l (fs ρ S) fun ts S1 => match allD ts with | some ds => if ds.length ≤ sizeLine then .ok (.own ds) S1 else .bad | none => .bad
def cTup (fs : SA) : SE := fun ρ S => R.l (fs ρ S) fun ts S1 => match allD ts with | some ds => if ds.length ≤ sizeLine then .ok (.val (.tuple ds)) S1 else .bad | none => .bad
section
variable {G : Cc} {W : WX} {o o1 : Gh} {c c1 : Cs} {ρ : En} {σ : L2.St} {H H1 : Hp} {pos : Pos} {a b : Expr} {f1 f2 f3 : SE} {g1 g2 : SB} {e : Expr} {es : List Expr} {fs : SA}
theorem ev_list (h : AV G es fs) : EV G (.List es pos) (cList fs) := by
  obtain ⟨t, p, q⟩ := h
  refine ⟨fun W => tLst (t W), fun X W k => pe_lst (p X W k), fun W σ H ρ S o c Q nt rs ps => ?_⟩
  refine (q W).d nt rs ps fun ts S1 vs o1 c1 H1 s1 nt1 rs1 r1 p1 => ?_
  cases e : allD ts with
  | none => rw [e] at p1; exact p1.elim
  | some ds =>
    rw [e] at p1
    have ra := r1.all e
    by_cases z : ds.length ≤ sizeLine
    · simp only [if_pos z] at p1
      have z' : vs.length ≤ sizeLine := by rw [ra.length]; exact z
      exact ⟨z', fun q n => post_own rs1 p1 n z' ra⟩
    · simp only [if_neg z] at p1; exact p1.elim
theorem ev_tup {k : Nat} (h : AV G es fs) : EV G (.Tuple es k pos) (cTup fs) := by
  obtain ⟨t, p, q⟩ := h
  refine ⟨fun W => tTup (t W), fun X W k => pe_tup (p X W k), fun W σ H ρ S o c Q nt rs ps => ?_⟩
  refine (q W).d nt rs ps fun ts S1 vs o1 c1 H1 s1 nt1 rs1 r1 p1 => ?_
  cases e : allD ts with
  | none => rw [e] at p1; exact p1.elim
  | some ds =>
    rw [e] at p1
    have ra := r1.all e
    by_cases z : ds.length ≤ sizeLine
    · simp only [if_pos z] at p1
      have z' : vs.length ≤ sizeLine := by rw [ra.length]; exact z
      exact ⟨z', fun q n => post_tup rs1 p1 n z' ra⟩
    · simp only [if_neg z] at p1; exact p1.elim

/-! ### subscripts -/
theorem RepAll.atI {K : PySem.W.Frag} {o : Gh} {H : Hp} {vs : List V} {ds : List D} {i : Int} {d : D} (r : RepAll K o H vs ds) (h : atI ds i = some d) : ∃ v, L2.atI vs i = some v ∧ Rep K o H v d := by
  unfold L2.atI at h ⊢
  rw [r.length]
  cases e : ixN ds.length i with
  | none => rw [e] at h; cases h
  | some j =>
    rw [e] at h
    exact r.get h
def gIx : D → D → Option T
  | .list xs, .int i => (atI xs i).map T.val
  | .tuple xs, .int i => (atI xs i).map T.val
  | .str x, .int i => (atI x.cps.toList i).map fun c => .val (.str ⟨#[c]⟩)
  | .dict kvs, k => (dAt kvs k).bind fun o => o.map T.val
  | _, _ => none
section
open PySem.Spec PyProof.Rows
/-- d[k], by values -/
def rIxDict : R2 := fun x y H Q => ∃ a v, x = .ref a ∧ DGet H a y (some v) ∧ Q v H
theorem ix_dict {X : Cx} (hu : X.A.units + 1 < cLine) : IxR X rIxDict := by
  intro value slice pins s σ H x y v u Q I rx ry h hs
  obtain ⟨a, w, rfl, g, q⟩ := h
  cases (show v = Value.ref a from rx)
  have hT := dict_typeIs I g
  unfold subscriptTail
  refine wpAny_bind ?_
  rw [getitemInPython_of_ne hT.not_modules]
  refine wpAny_bind (wpAny_specialOf hT PySem.F.slot_dict_getitem.lookup ?_)
  have fin : wpAny (model X.prog X.w) X.A (subscripted slice false (Value.ref a) u) (fun r s' => wpAny (model X.prog X.w) X.A (letTemporaryGo value (Value.ref a) r >>= fun _ => pure r) (EP X pins σ Q) X.xe s') X.xe s := by
    rw [hs]
    exact wpAny_operating (d_getItem hu I g ry fun w' s' I' rw' => wpAny_bind (wpAny_letTemporaryGo (wpAny_pure ⟨w, H, I', rw', q⟩)))
  first
    | exact wpAny_pure (wpAny_bind fin)
    | exact wpAny_bind (wpAny_pure (wpAny_bind fin))
    | exact wpAny_bind fin
end
theorem atI_mem {α : Type} {xs : List α} {i : Int} {v : α} (h : atI xs i = some v) : v ∈ xs := by
  obtain ⟨j, _, e, _⟩ := atI_get h
  exact List.mem_of_getElem? e
theorem strOk_one {x : Str} {m : Nat} (h : PyData.strOk x = true) (hc : m ∈ x.cps.toList) : PyData.strOk ⟨#[m]⟩ = true := by
  have h' : x.cps.all (fun y => decide (y < 0x110000)) = true := h
  rw [← Array.all_toList, List.all_eq_true] at h'
  have := h' m hc
  show (#[m] : Array Nat).all (fun y => decide (y < 0x110000)) = true
  rw [← Array.all_toList]
  simp only [List.all_cons, List.all_nil, Bool.and_true]
  exact this
theorem one_line {m : Nat} : (⟨#[m]⟩ : Str).length ≤ sizeLine := by
  show 1 ≤ sizeLine
  decide
def rIxD (K : PySem.W.Frag) : R2 := fun x y H Q => rIx K x y H Q ∨ rIxDict x y H Q
theorem opd_ix (K : PySem.W.Frag) : OpD K (rIxD K) gIx := by
  intro G W o c ρ S σ H x y a b t Q hK rs r1 r2 e p
  subst hK
  unfold gIx at e
  split at e
  · rename_i xs i
    obtain ⟨a1, v1, e1, h1, n1, z1, q1⟩ := r1.lstV
    cases q : atI xs i with
    | none => rw [q] at e; cases e
    | some d =>
      rw [q] at e; cases e
      obtain ⟨v, q2, q3⟩ := q1.atI q
      rw [e1, r2.intV]
      exact .inl (.inl ⟨a1, v1, i, v, rfl, rfl, .of h1, q2, post_val rs p q3⟩)
  · rename_i xs i
    obtain ⟨a1, v1, e1, h1, z1, q1⟩ := r1.tupV
    cases q : atI xs i with
    | none => rw [q] at e; cases e
    | some d =>
      rw [q] at e; cases e
      obtain ⟨v, q2, q3⟩ := q1.atI q
      rw [e1, r2.intV]
      exact .inl (.inr (.inl ⟨a1, v1, i, v, rfl, rfl, h1, q2, post_val rs p q3⟩))
  · rename_i x i
    obtain ⟨e1, o1, l1⟩ := r1.strV
    cases q : atI x.cps.toList i with
    | none => rw [q] at e; cases e
    | some d =>
      rw [q] at e; cases e
      rw [e1, r2.intV]
      exact .inl (.inr (.inr ⟨x, i, d, rfl, rfl, l1, q, post_val rs p (.str _ (strOk_one o1 (atI_mem q)) one_line)⟩))
  · rename_i kvs
    cases e1 : dAt kvs b with
    | none => rw [e1] at e; cases e
    | some od =>
      cases od with
      | none => rw [e1] at e; cases e
      | some d =>
        rw [e1] at e
        cases e
        obtain ⟨p', rfl, _, g⟩ := rd_get r1 r2 e1
        obtain ⟨v, g, rv⟩ := g
        exact .inr ⟨p', v, rfl, g, post_val rs p rv⟩
  · cases e
theorem ev_ix (h1 : UV G a f1) (h2 : UV G b f2) (hs : PlainIx b := by exact fun _ _ => rfl) : EV G (.Subscript a b pos) (cBin gIx f1 f2) := by
  obtain ⟨t1, p1, q1⟩ := h1
  obtain ⟨t2, p2, q2⟩ := h2
  exact ⟨fun W => tOp (rIxD G.K) (t1 W) (t2 W), fun X W k => by have := pe_ix (pos := pos) ((ix_seq (X := X)).or (ix_dict (by have := k.units; omega))) (p1 X W k) (p2 X W k) hs; rw [k.K] at this; exact this, fun W => er_bin (q1 W) (q2 W) (opd_ix _)⟩
/-- the script's item -/
def cScrIx (i : Nat) (f : SE) : SE := fun ρ S => match ρ[i]? with
  | some (some (.scr ns)) => R.d (f ρ S) fun d S1 => (match d with | .int j => (match atI ns j with | some n => .ok (.val (.int n)) S1 | none => .bad) | _ => .bad)
  | _ => .bad
theorem RepT.scrL {K : PySem.W.Frag} {w : Ow} {v : V} {ns : List Int} (r : RepT K o c H w v (.scr ns)) : ∃ a, v = .ref a ∧ SqL K H a (ns.map V.int) := by
  obtain ⟨a, e, z, h⟩ := r
  refine ⟨a, e, ?_⟩
  rcases h with ⟨ob, h⟩ | ⟨h, _⟩ | h
  · exact .inl (.inr ⟨ob, h⟩)
  · exact .inl (.inl h)
  · exact .inr h
theorem atI_map {α β : Type} (g : α → β) (xs : List α) (i : Int) : atI (xs.map g) i = (atI xs i).map g := by
  unfold L2.atI
  rw [List.length_map]
  cases ixN xs.length i with
  | none => rfl
  | some j => simp
theorem ev_scrIx (i : Nat) {x : Str} {xpos : Pos} (h2 : UV G b f2) (hs : PlainIx b := by exact fun _ _ => rfl) (hN : G.N[i]? = some x := by rfl) (hv : Vis G.sc x := by first | exact Or.inl rfl | exact Or.inr (Or.inl rfl) | exact Or.inr (Or.inr rfl))
    (hd : (x == ("__debug__" : Str)) = false := by decide) (hcd : (x == ("__classdict__" : Str)) = false := by decide) : EV G (.Subscript (.Name x xpos) b pos) (cScrIx i f2) := by
  obtain ⟨t2, p2, q2⟩ := h2
  refine ⟨fun W => tOp (rIxL G.K) (tVar i) (t2 W), fun X W k => by have := pe_ix (pos := pos) (ix_list (X := X)) (pe_var (pos := xpos) (k.at hN) (k.vis hv) hd hcd) (p2 X W k) hs; rw [k.K] at this; exact this, fun W σ H ρ S o c Q nt rs p => ?_⟩
  unfold cScrIx at p
  split at p
  · rename_i ns e
    obtain ⟨v, e1, r⟩ := rs.slot i _ e
    refine ⟨v, e1, (q2 W).d nt rs p fun d S1 v1 o1 c1 H1 s1 nt1 rs1 r1 p1 => ?_⟩
    obtain ⟨a, e2, hq⟩ := (RepT.step (w := .slot i) rs.cs.trk s1 (fun z => z) r).scrL
    cases d with
    | int j =>
      cases q : atI ns j with
      | none => simp only [q] at p1; exact p1.elim
      | some n =>
        simp only [q] at p1
        exact ⟨a, _, j, .int n, e2, r1.intV, hq, by rw [atI_map, q]; rfl, post_val rs1 p1 (.int _)⟩
    | _ => exact p1.elim
  · exact p.elim
/-- a cell's item -/
def cCelIx (i : Nat) (f : SE) : SE := fun ρ S => match ρ[i]? with
  | some (some (.cel n)) => R.d (f ρ S) fun d S1 => (match d, S1[n]? with | .int j, some (.lst xs) => (match atI xs j with | some x => .ok (.val x) S1 | none => .bad) | _, _ => .bad)
  | _ => .bad
theorem CS.at {K : PySem.W.Frag} {S : Sto} (q : CS K o c S H) {n : Nat} {a : Addr} {k : Ce} (e : c[n]? = some a) (e' : S[n]? = some k) : CellR K o H n a k := q.cell n a k e e'
theorem ev_celIx (i : Nat) {x : Str} {xpos : Pos} (h2 : UV G b f2) (hs : PlainIx b := by exact fun _ _ => rfl) (hN : G.N[i]? = some x := by rfl) (hv : Vis G.sc x := by first | exact Or.inl rfl | exact Or.inr (Or.inl rfl) | exact Or.inr (Or.inr rfl))
    (hd : (x == ("__debug__" : Str)) = false := by decide) (hcd : (x == ("__classdict__" : Str)) = false := by decide) : EV G (.Subscript (.Name x xpos) b pos) (cCelIx i f2) := by
  obtain ⟨t2, p2, q2⟩ := h2
  refine ⟨fun W => tOp (rIxL G.K) (tVar i) (t2 W), fun X W k => by have := pe_ix (pos := pos) (ix_list (X := X)) (pe_var (pos := xpos) (k.at hN) (k.vis hv) hd hcd) (p2 X W k) hs; rw [k.K] at this; exact this, fun W σ H ρ S o c Q nt rs p => ?_⟩
  unfold cCelIx at p
  split at p
  · rename_i n e
    obtain ⟨v, e1, r⟩ := rs.slot i _ e
    refine ⟨v, e1, (q2 W).d nt rs p fun d S1 v1 o1 c1 H1 s1 nt1 rs1 r1 p1 => ?_⟩
    obtain ⟨a, ea, ev⟩ := r
    have ea' := pre_get s1.pre ea
    cases d with
    | int j =>
      cases q0 : S1[n]? with
      | none => simp only [q0] at p1; exact p1.elim
      | some k =>
        cases k with
        | dead => simp only [q0] at p1; exact p1.elim
        | dct tk kvs => simp only [q0] at p1; exact p1.elim
        | tab => simp only [q0] at p1; exact p1.elim
        | lst xs =>
          simp only [q0] at p1
          cases q : atI xs j with
          | none => simp only [q] at p1; exact p1.elim
          | some x =>
            simp only [q] at p1
            obtain ⟨_, vs, h1, h2, h3⟩ := rs1.cs.at ea' q0
            obtain ⟨v', q5, q6⟩ := h3.atI q
            exact ⟨a, vs, j, v', ev, r1.intV, .of h1, q5, post_val rs1 p1 q6⟩
    | _ => exact p1.elim
  · exact p.elim

/-- k in a cell's dict -/
def cCelIn (neg : Bool) (f : SE) (i : Nat) : SE := fun ρ S => R.d (f ρ S) fun d S1 => match ρ[i]? with
  | some (some (.cel n)) => (match S1[n]? with
    | some (.dct q kvs) => (match dAtI (mkD q kvs) d with | some o => .ok (.val (.bool (if neg then !o.isSome else o.isSome))) S1 | none => .bad)
    | _ => .bad)
  | _ => .bad
theorem rd_inC {K : PySem.W.Frag} {o : Gh} {H : Hp} {a : Addr} {y : V} {q : Bool} {ks : List D} {vs : List V} {ds : List D} {kd : D} {od : Option D} {neg : Bool} {Q : VK} (hd : DAt K q H a ks vs) (ra : RepAll K o H vs ds) (r2 : RepU K o H y kd) (h : dAtI (mkD q (ks.zip ds)) kd = some od) (qq : Q (.bl (if neg then !od.isSome else od.isSome)) H) :
    rInDict K neg y (.ref a) H Q := by
  have hu := hd.un (ds := ds)
  unfold dAtI at h
  cases ek : keyOf kd with
  | none => rw [ek] at h; cases h
  | some k =>
    rw [ek, hu] at h
    dsimp only at h
    split at h
    · rename_i hc
      have h' := Option.some.inj h
      cases q with
      | false =>
        cases k with
        | inr k => cases hc
        | inl k =>
          obtain ⟨kvs', hr, rfl, rfl⟩ := hd
          have ev : y = kV k := keyV r2 (keyOf_inl ek)
          obtain ⟨g1, g2⟩ := dget_rep (fun k => keyD k) (fun k => .inl k) keyOf_key (fun a b h => Sum.inl.inj h) k kvs' ds ra
          rw [h'] at g1 g2
          refine ⟨a, rfl, .inl ⟨valV kvs' k, .inl ⟨kvs', k, hr, ev, rfl⟩, ?_⟩⟩
          have hv : (valV kvs' k).isSome = od.isSome := by
            cases od with
            | some d => obtain ⟨v, e1, _⟩ := g1 d rfl; rw [e1]; rfl
            | none => rw [g2 rfl]; rfl
          rw [hv]
          exact qq
      | true =>
        have hc' : fitsT k = true := by
          cases k with
          | inl k => exact hc
          | inr k => exact hc
        obtain ⟨ns, rfl⟩ := fitsT_ints hc'
        obtain ⟨kvs', xs, hH, kx, hs, rfl, rfl⟩ := hd
        have ey := keyOf_kInts ek
        subst ey
        obtain ⟨b, us, rfl, sb, _, rb⟩ := r2.tupV
        have eu : us = ns.map V.int := ints_rep rb
        subst eu
        obtain ⟨g1, g2⟩ := dget_rep (fun k => .tuple (k.map PyData.int)) kInts keyOf_ints kInts_inj ns kvs' ds ra
        rw [h'] at g1 g2
        have hv : (valV kvs' ns).isSome = od.isSome := by
          cases od with
          | some d => obtain ⟨v, e1, _⟩ := g1 d rfl; rw [e1]; rfl
          | none => rw [g2 rfl]; rfl
        refine ⟨a, rfl, .inr ⟨kvs', xs, b, ns, hH, kx, hs, rfl, sb, ?_⟩⟩
        rw [hv]
        exact qq
    · cases h
theorem er_celIn {W : WX} {t1 : TE} (neg : Bool) (i : Nat) (q1 : URd G W t1 f1) : ER G W (tOp (rInD G.K neg) t1 (tVar i)) (cCelIn neg f1 i) := by
  intro σ H ρ S o c Q nt rs p
  refine q1.d nt rs p fun d S1 v1 o1 c1 H1 s1 nt1 rs1 r1 p1 => ?_
  split at p1
  · rename_i n e
    obtain ⟨v, e1, a0, ea, ev⟩ := rs1.slot i _ e
    refine ⟨v, e1, ?_⟩
    subst ev
    cases q0 : S1[n]? with
    | none => simp only [q0] at p1; exact p1.elim
    | some k =>
      cases k with
      | dead => simp only [q0] at p1; exact p1.elim
      | lst xs => simp only [q0] at p1; exact p1.elim
      | tab => simp only [q0] at p1; exact p1.elim
      | dct q kvs =>
        simp only [q0] at p1
        obtain ⟨_, ks, vs, ds, hd, _, _, ra, rfl⟩ := rs1.cs.at ea q0
        cases q5 : dAtI (mkD q (ks.zip ds)) d with
        | none => simp only [q5] at p1; exact p1.elim
        | some od =>
          simp only [q5] at p1
          exact .inl (.inl (.inr (rd_inC hd.r ra r1 q5 (post_val rs1 p1 (.bl _)))))
  · exact p1.elim
theorem op_inD {X : Cx} {W : WX} (k : G.Ok X W) : OpR X (compareOp .In) (rInD G.K false) := by
  have h := op_in_seq (X := X)
  have h2 := op_inS (X := X) (in1_room k)
  have h3 := op_in_dict (X := X) (by have := k.units; omega)
  rw [k.K] at h h2 h3
  exact ((h.or h3).or h2).or op_in_sign
theorem ev_celIn (i : Nat) {x : Str} {xpos : Pos} (h1 : UV G a f1) (hN : G.N[i]? = some x := by rfl) (hv : Vis G.sc x := by first | exact Or.inl rfl | exact Or.inr (Or.inl rfl) | exact Or.inr (Or.inr rfl)) (hd : (x == ("__debug__" : Str)) = false := by decide) (hcd : (x == ("__classdict__" : Str)) = false := by decide) : EV G (.Compare a [.In] [.Name x xpos] pos) (cCelIn false f1 i) := by
  obtain ⟨t1, p1, q1⟩ := h1
  exact ⟨fun W => tOp (rInD G.K false) (t1 W) (tVar i), fun X W k => pe_cmpR (op_inD k) (p1 X W k) (pe_var (pos := xpos) (k.at hN) (k.vis hv) hd hcd) rfl, fun W => er_celIn false i (q1 W)⟩
theorem tv_celIn (i : Nat) {x : Str} {xpos : Pos} (h1 : UV G a f1) (hN : G.N[i]? = some x := by rfl) (hv : Vis G.sc x := by first | exact Or.inl rfl | exact Or.inr (Or.inl rfl) | exact Or.inr (Or.inr rfl)) (hd : (x == ("__debug__" : Str)) = false := by decide) (hcd : (x == ("__classdict__" : Str)) = false := by decide) : TV G (.Compare a [.In] [.Name x xpos] pos) (cB (cCelIn false f1 i)) := by
  obtain ⟨t1, p1, q1⟩ := h1
  exact ⟨fun W => tTest (tOp (rInD G.K false) (t1 W) (tVar i)), fun X W k => pt_cmpR (op_inD k) (p1 X W k) (pe_var (pos := xpos) (k.at hN) (k.vis hv) hd hcd) rfl, fun W => .test (er_celIn false i (q1 W))⟩
/-! ### slices -/
def PostP (G : Cc) (W : WX) (o : Gh) (c : Cs) (ρ : En) (σ : L2.St) (H : Hp) (r : R (Option Int)) (Q : Option Int → Hp → Prop) : Prop := match r with
  | .ok i S' => ∀ o' c' H', Step isCell o c H o' c' H' → NT o' → RS G.K o' c' ρ S' σ H' → Q i H'
  | .exc e S' => ∀ cls d o' c' H', Step isCell o c H o' c' H' → RS G.K o' c' ρ S' σ H' → NT o' → ExcR G.mg H' cls d e → W cls d σ H'
  | .bad => False
def PartR (G : Cc) (W : WX) (t : TO) (f : En → Sto → R (Option Int)) : Prop := ∀ (σ : L2.St) (H : Hp) (ρ : En) (S : Sto) (o : Gh) (c : Cs) (Q : Option Int → Hp → Prop), NT o → RS G.K o c ρ S σ H → PostP G W o c ρ σ H (f ρ S) Q → t σ H Q
theorem PartR.d {f : En → Sto → R (Option Int)} {t : TO} (h : PartR G W t f) {S : Sto} {k : Option Int → Sto → R T} {Q : Option Int → Hp → Prop} {Q0 : VK} (nt : NT o) (rs : RS G.K o c ρ S σ H) (p : PostE G W o c ρ σ H (R.l (f ρ S) k) Q0)
    (q : ∀ i S1 o1 c1 H1, Step isCell o c H o1 c1 H1 → NT o1 → RS G.K o1 c1 ρ S1 σ H1 → PostE G W o1 c1 ρ σ H1 (k i S1) Q0 → Q i H1) : t σ H Q := by
  refine h σ H ρ S o c Q nt rs ?_
  cases e : f ρ S with
  | ok ts S1 => rw [e] at p; exact fun o' c' H' s nt' rs' => q ts S1 o' c' H' s nt' rs' (PostE.step s p)
  | exc e S1 => rw [e] at p; exact p
  | bad => rw [e] at p; exact p
def PtV (G : Cc) (e : Option Expr) (f : En → Sto → R (Option Int)) : Prop := ∃ t : WX → TO, (∀ X W, G.Ok X W → PO X e (t W)) ∧ ∀ W, PartR G W (t W) f
def cNoPart : En → Sto → R (Option Int) := fun _ S => .ok none S
def cPart (f : SE) : En → Sto → R (Option Int) := fun ρ S => match f ρ S with
  | .ok t S1 => (match asD t with | some (.int i) => .ok (some i) S1 | _ => .bad)
  | .exc e S1 => .exc e S1
  | .bad => .bad
theorem pt_none : PtV G none cNoPart := ⟨fun _ => tNoPart, fun _ _ _ => po_none, fun W σ H ρ S o c Q nt rs p => p o c H Step.refl nt rs⟩
theorem pt_some (h : UV G e f1) : PtV G (some e) (cPart f1) := by
  obtain ⟨t, p, q⟩ := h
  refine ⟨fun W => tPart (t W), fun X W k => po_some (p X W k), fun W σ H ρ S o c Q nt rs ps => ?_⟩
  refine q W σ H ρ S o c _ nt rs ?_
  unfold cPart at ps
  cases e : f1 ρ S with
  | bad => rw [e] at ps; exact ps
  | exc e' S' => rw [e] at ps; exact ps
  | ok t0 S' =>
    rw [e] at ps
    cases e1 : asD t0 with
    | none => simp only [e1] at ps; exact ps.elim
    | some d =>
      simp only [e1] at ps
      refine ⟨d, e1, fun v o1 c1 H1 s1 nt1 rs1 r1 => ?_⟩
      cases d with
      | int i => exact ⟨i, r1.intV, ps o1 c1 H1 s1 nt1 rs1⟩
      | _ => exact ps.elim
def cutD {α : Type} (xs : List α) (lo hi : Option Int) : List α := (xs.drop (HT.sIx xs.length 0 lo)).take (HT.sIx xs.length xs.length hi - HT.sIx xs.length 0 lo)
theorem RepAll.cut {K : PySem.W.Frag} {vs : List V} {ds : List D} (r : RepAll K o H vs ds) (lo hi : Option Int) : RepAll K o H (cutV vs lo hi) (cutD ds lo hi) := by
  unfold cutV cutD
  rw [r.length]
  exact (r.drop _).take _
def gSl : D → Option Int → Option Int → Option T
  | .list xs, lo, hi => some (.own (cutD xs lo hi))
  | .tuple xs, lo, hi => some (.val (.tuple (cutD xs lo hi)))
  | .str x, lo, hi => some (.val (.str (cutS x lo hi)))
  | _, _, _ => none
def cSl (f : SE) (g h : En → Sto → R (Option Int)) : SE := fun ρ S => R.d (f ρ S) fun d S1 => R.l (g ρ S1) fun lo S2 => R.l (h ρ S2) fun hi S3 => match gSl d lo hi with | some t => .ok t S3 | none => .bad
theorem strOk_cut {x : Str} {lo hi : Option Int} (h : PyData.strOk x = true) : PyData.strOk (cutS x lo hi) = true := by
  have h' : x.cps.all (fun y => decide (y < 0x110000)) = true := h
  rw [← Array.all_toList, List.all_eq_true] at h'
  show (cutS x lo hi).cps.all (fun y => decide (y < 0x110000)) = true
  rw [← Array.all_toList, List.all_eq_true]
  intro c hc
  unfold cutS at hc
  exact h' c (List.mem_of_mem_drop (List.mem_of_mem_take (by simpa using hc)))
def rSlD (K : PySem.W.Frag) : V → Option Int → Option Int → Hp → VK → Prop := fun x lo hi H Q => (rSlL K x lo hi H Q ∨ rSlA K x lo hi H Q) ∨ rSlS x lo hi H Q
theorem ev_sl {lo hi : Option Expr} {sp : Pos} {g h : En → Sto → R (Option Int)} (h1 : UV G a f1) (h2 : PtV G lo g) (h3 : PtV G hi h) : EV G (.Subscript a (.Slice lo hi none sp) pos) (cSl f1 g h) := by
  obtain ⟨t1, p1, q1⟩ := h1
  obtain ⟨t2, p2, q2⟩ := h2
  obtain ⟨t3, p3, q3⟩ := h3
  refine ⟨fun W => tSl (rSlD G.K) (t1 W) (t2 W) (t3 W), fun X W k => ?_, fun W σ H ρ S o c Q nt rs p => ?_⟩
  · have := pe_slice (pos := pos) (p2 := sp) ((sl_list (X := X)).or (sl_tupA (X := X)) |>.or (sl_str (X := X))) (p1 X W k) (p2 X W k) (p3 X W k)
    rw [k.K] at this
    exact this
  refine (q1 W).d nt rs p fun d S1 v o1 c1 H1 s1 nt1 rs1 r1 p1 => ?_
  refine (q2 W).d nt1 rs1 p1 fun l S2 o2 c2 H2 s2 nt2 rs2 p2 => ?_
  refine (q3 W).d nt2 rs2 p2 fun u S3 o3 c3 H3 s3 nt3 rs3 p3 => ?_
  have r3 := (r1.step rs1.cs.trk s2).step rs2.cs.trk s3
  cases d with
  | list xs =>
    obtain ⟨a, vs, e1, h1, _, z1, ra⟩ := r3.lstV
    exact .inl (.inl ⟨a, vs, e1, .of h1, fun q n => post_own rs3 p3 n (Nat.le_trans (cutV_length _ _ _) z1) (ra.cut l u)⟩)
  | tuple xs =>
    obtain ⟨a, vs, e1, h1, z1, ra⟩ := r3.tupW
    subst e1
    refine .inl (.inr ⟨a, vs, rfl, h1, fun hw => ?_, fun hw q n => post_tup rs3 p3 n (Nat.le_trans (cutV_length _ _ _) z1) (ra.cut l u)⟩)
    have e2 : cutD xs l u = xs := by
      unfold cutD
      rw [← ra.length, hw.1, hw.2, List.drop_zero, Nat.sub_zero, ra.length, List.take_length]
    have p4 : PostE G W o3 c3 ρ σ H3 (.ok (.val (.tuple (cutD xs l u))) S3) Q := p3
    rw [e2] at p4
    exact post_val rs3 p4 (.tup a vs xs h1 z1 ra)
  | str x =>
    obtain ⟨e1, o1, l1⟩ := r3.strV
    exact .inr ⟨x, e1, l1, post_val rs3 p3 (.str _ (strOk_cut o1) (Nat.le_trans (cutS_length _ _ _) l1))⟩
  | _ => exact p3.elim
end
end BV
/-! The by-value calculus: built-ins by their arguments' data; calls of defs; a def's body. -/
namespace BV
open PySem L2

/-! ### arguments as operands -/
abbrev SU := En → Sto → R (List D)
def uNil : SU := fun _ S => .ok [] S
def uCons (f : SE) (g : SU) : SU := fun ρ S => match f ρ S with
  | .ok t S1 => (match asD t with | some d => R.l (g ρ S1) fun ds S2 => .ok (d :: ds) S2 | none => .bad)
  | .exc e S1 => .exc e S1
  | .bad => .bad
def RepUs (K : PySem.W.Frag) (o : Gh) (H : Hp) : List V → List D → Prop
  | [], [] => True
  | v :: vs, d :: ds => RepU K o H v d ∧ RepUs K o H vs ds
  | _, _ => False
def PostL (G : Cc) (W : WX) (o : Gh) (c : Cs) (ρ : En) (σ : L2.St) (H : Hp) (r : R (List D)) (Q : List V → Hp → Prop) : Prop := match r with
  | .ok ds S' => ∀ vs o' c' H', Step isCell o c H o' c' H' → NT o' → RS G.K o' c' ρ S' σ H' → RepUs G.K o' H' vs ds → Q vs H'
  | .exc e S' => ∀ cls d o' c' H', Step isCell o c H o' c' H' → RS G.K o' c' ρ S' σ H' → NT o' → ExcR G.mg H' cls d e → W cls d σ H'
  | .bad => False
def UAR (G : Cc) (W : WX) (t : TA) (f : SU) : Prop := ∀ (σ : L2.St) (H : Hp) (ρ : En) (S : Sto) (o : Gh) (c : Cs) (Q : List V → Hp → Prop), NT o → RS G.K o c ρ S σ H → PostL G W o c ρ σ H (f ρ S) Q → t σ H Q
def UAV (G : Cc) (es : List Expr) (f : SU) : Prop := ∃ t : WX → TA, (∀ X W, G.Ok X W → PA X es (t W)) ∧ ∀ W, UAR G W (t W) f
theorem PostL.step {G : Cc} {W : WX} {o o1 : Gh} {c c1 : Cs} {ρ : En} {σ : L2.St} {H H1 : Hp} {r : R (List D)} {Q : List V → Hp → Prop} (a : Step isCell o c H o1 c1 H1) (h : PostL G W o c ρ σ H r Q) : PostL G W o1 c1 ρ σ H1 r Q := by
  cases r with
  | ok t S' => exact fun v o' c' H' s => h v o' c' H' (a.trans s)
  | exc e S' => exact fun cls d o' c' H' s => h cls d o' c' H' (a.trans s)
  | bad => exact h
theorem UAR.d {G : Cc} {W : WX} {o : Gh} {c : Cs} {ρ : En} {σ : L2.St} {H : Hp} {f : SU} {t : TA} (h : UAR G W t f) {S : Sto} {k : List D → Sto → R T} {Q : List V → Hp → Prop} {Q0 : VK} (nt : NT o) (rs : RS G.K o c ρ S σ H) (p : PostE G W o c ρ σ H (R.l (f ρ S) k) Q0)
    (q : ∀ ds S1 vs o1 c1 H1, Step isCell o c H o1 c1 H1 → NT o1 → RS G.K o1 c1 ρ S1 σ H1 → RepUs G.K o1 H1 vs ds → PostE G W o1 c1 ρ σ H1 (k ds S1) Q0 → Q vs H1) : t σ H Q := by
  refine h σ H ρ S o c Q nt rs ?_
  cases e : f ρ S with
  | ok ts S1 => rw [e] at p; exact fun vs o' c' H' s nt' rs' r' => q ts S1 vs o' c' H' s nt' rs' r' (PostE.step s p)
  | exc e S1 => rw [e] at p; exact p
  | bad => rw [e] at p; exact p
theorem RepUs.step {K : PySem.W.Frag} {o o1 : Gh} {c c1 : Cs} {H H1 : Hp} (tr : Trk o H) (s : Step isCell o c H o1 c1 H1) : ∀ {vs : List V} {ds : List D}, RepUs K o H vs ds → RepUs K o1 H1 vs ds
  | [], [], _ => trivial
  | _ :: _, _ :: _, r => ⟨r.1.step tr s, RepUs.step tr s r.2⟩
  | [], _ :: _, r => r.elim
  | _ :: _, [], r => r.elim
section
variable {G : Cc} {pos : Pos} {e : Expr} {es : List Expr} {f : SE} {g : SU}
theorem ua_nil : UAV G [] uNil := ⟨fun _ => tNil, fun X W k => pa_nil, fun W σ H ρ S o c Q nt rs p => p [] o c H Step.refl nt rs trivial⟩
theorem ua_cons (h1 : UV G e f) (h2 : UAV G es g) (hs : ∀ env : PySem.Env, starEach (e :: es) env = (false, eval e env) :: starEach es env := by intro _; rfl) : UAV G (e :: es) (uCons f g) := by
  obtain ⟨t1, p1, q1⟩ := h1
  obtain ⟨t2, p2, q2⟩ := h2
  refine ⟨fun W => tCons (t1 W) (t2 W), fun X W k => pa_cons (p1 X W k) (p2 X W k) (hs _), fun W σ H ρ S o c Q nt rs p => ?_⟩
  refine q1 W σ H ρ S o c _ nt rs ?_
  unfold uCons at p
  cases e1 : f ρ S with
  | bad => rw [e1] at p; exact p
  | exc e' S' => rw [e1] at p; exact p
  | ok t0 S' =>
    rw [e1] at p
    cases e2 : asD t0 with
    | none => simp only [e2] at p; exact p.elim
    | some d =>
      simp only [e2] at p
      refine ⟨d, e2, fun v o1 c1 H1 s1 nt1 rs1 r1 => ?_⟩
      have p' := PostL.step s1 p
      refine q2 W σ H1 ρ S' o1 c1 _ nt1 rs1 ?_
      cases e3 : g ρ S' with
      | bad => rw [e3] at p'; exact p'
      | exc e' S' => rw [e3] at p'; exact p'
      | ok ds S2 =>
        rw [e3] at p'
        exact fun vs o2 c2 H2 s2 nt2 rs2 r2 => p' (v :: vs) o2 c2 H2 s2 nt2 rs2 ⟨r1.step rs1.cs.trk s2, r2⟩

/-! ### built-ins -/
def CallD (K : PySem.W.Frag) (r : List V → Hp → VK → Prop) (g : List D → Option T) : Prop := ∀ (G : Cc) (W : WX) (o : Gh) (c : Cs) (ρ : En) (S : Sto) (σ : L2.St) (H : Hp) (vs : List V) (ds : List D) (t : T) (Q : VK), G.K = K → RS K o c ρ S σ H → RepUs K o H vs ds → g ds = some t →
  PostE G W o c ρ σ H (.ok t S) Q → r vs H Q
def cB1 (g : List D → Option T) (fs : SU) : SE := fun ρ S => R.l (fs ρ S) fun ds S1 => match g ds with | some t => .ok t S1 | none => .bad
/-- a built-in function: its name, its rule -/
structure BF (G : Cc) (x : Str) (g : List D → Option T) : Prop where
  ex : ∃ (id : String) (r : List V → Hp → VK → Prop), bootBuiltins x = some (.builtin id) ∧ (∀ X W, G.Ok X W → CallR X (.builtin id) r) ∧ CallD G.K r g
structure BT (G : Cc) (x : Str) (g : List D → Option T) : Prop where
  ex : ∃ (id : String) (r : List V → Hp → VK → Prop), bootBuiltins x = some (.type id) ∧ (∀ X W, G.Ok X W → CallR X (.type id) r) ∧ CallD G.K r g
theorem er_call {W : WX} {t : TA} {r : List V → Hp → VK → Prop} {g : List D → Option T} {fs : SU} (h : UAR G W t fs) (hr : CallD G.K r g) : ER G W (tCB r t) (cB1 g fs) := by
  intro σ H ρ S o c Q nt rs p
  unfold cB1 at p
  refine h.d (Q := fun vs H1 => r vs H1 Q) nt rs p fun ds S1 vs o1 c1 H1 s1 nt1 rs1 r1 p1 => ?_
  cases e : g ds with
  | none => rw [e] at p1; exact p1.elim
  | some t => rw [e] at p1; exact hr G W o1 c1 ρ S1 σ H1 vs ds t Q rfl rs1 r1 e p1
theorem ev_bf {x : Str} {p : Pos} {gg : List D → Option T} (hb : BF G x gg) (hm : G.mg x = none) (ha : UAV G (e :: es) g) (hg : G.sc.names.lookup x = some .globalImplicit := by rfl) (hn : x ≠ "__name__" := by decide) (hdb : (x == ("__debug__" : Str)) = false := by decide)
    (he : ∀ env : PySem.Env, starEach (e :: es) env = (false, eval e env) :: starEach es env := by intro _; rfl) (hpl : ∀ env : PySem.Env, (backTo pos (starEach es env)).any (·.1) = false := by intro _; rfl) : EV G (.Call (.Name x p) (e :: es) [] pos) (cB1 gg g) := by
  obtain ⟨t, p1, q1⟩ := ha
  obtain ⟨id, r, hv, hr, hd⟩ := hb.ex
  exact ⟨fun W => tCB r (t W), fun X W k => pe_callB (hr X W k) (k.gl hg) (k.m hm) hv (p1 X W k) hn hdb (he _) (hpl _), fun W => er_call (q1 W) hd⟩
theorem ev_bt {x : Str} {p : Pos} {gg : List D → Option T} (hb : BT G x gg) (hm : G.mg x = none) (ha : UAV G (e :: es) g) (hg : G.sc.names.lookup x = some .globalImplicit := by rfl) (hn : x ≠ "__name__" := by decide) (hdb : (x == ("__debug__" : Str)) = false := by decide)
    (he : ∀ env : PySem.Env, starEach (e :: es) env = (false, eval e env) :: starEach es env := by intro _; rfl) (hpl : ∀ env : PySem.Env, (backTo pos (starEach es env)).any (·.1) = false := by intro _; rfl) : EV G (.Call (.Name x p) (e :: es) [] pos) (cB1 gg g) := by
  obtain ⟨t, p1, q1⟩ := ha
  obtain ⟨id, r, hv, hr, hd⟩ := hb.ex
  exact ⟨fun W => tCB r (t W), fun X W k => pe_callTy (hr X W k) (k.gl hg) (k.m hm) hv (p1 X W k) hn hdb (he _) (hpl _), fun W => er_call (q1 W) hd⟩

theorem RepUs.nilV {K : PySem.W.Frag} {o : Gh} {H : Hp} : ∀ {vs : List V}, RepUs K o H vs [] → vs = []
  | [], _ => rfl
  | _ :: _, r => r.elim
theorem RepUs.consV {K : PySem.W.Frag} {o : Gh} {H : Hp} {d : D} {ds : List D} : ∀ {vs : List V}, RepUs K o H vs (d :: ds) → ∃ v ws, vs = v :: ws ∧ RepU K o H v d ∧ RepUs K o H ws ds
  | [], r => r.elim
  | v :: ws, r => ⟨v, ws, rfl, r.1, r.2⟩
theorem RepUs.one {K : PySem.W.Frag} {o : Gh} {H : Hp} {vs : List V} {d : D} (r : RepUs K o H vs [d]) : ∃ v, vs = [v] ∧ RepU K o H v d := by
  obtain ⟨v, ws, e, r1, r2⟩ := r.consV
  exact ⟨v, by rw [e, r2.nilV], r1⟩
theorem RepUs.two {K : PySem.W.Frag} {o : Gh} {H : Hp} {vs : List V} {d e : D} (r : RepUs K o H vs [d, e]) : ∃ v w, vs = [v, w] ∧ RepU K o H v d ∧ RepU K o H w e := by
  obtain ⟨v, ws, e, r1, r2⟩ := r.consV
  obtain ⟨w, us, e', r3, r4⟩ := r2.consV
  exact ⟨v, w, by rw [e, e', r4.nilV], r1, r3⟩
def lenD : D → Option Nat
  | .str x => some x.length
  | .list xs => some xs.length
  | .tuple xs => some xs.length
  | _ => none
def gLen : List D → Option T
  | [d] => (lenD d).map fun (n : Nat) => T.val (.int n)
  | _ => none
theorem bf_len : BF G "len" gLen := ⟨"len", _, boot_len, fun X W k => by have := call_len (X := X); rw [k.K] at this; exact this, by
  intro G' W o c ρ S σ H vs ds t Q hK rs r e p
  rw [← hK] at r ⊢
  match ds, r, e with
  | [d], r, e =>
    obtain ⟨v, rfl, r'⟩ := r.one
    cases d with
    | str x =>
      cases e
      obtain ⟨e1, o1, l1⟩ := r'.strV
      exact ⟨v, _, rfl, by rw [e1]; exact ⟨l1, rfl⟩, post_val (hK ▸ rs) p (.int _)⟩
    | list xs =>
      cases e
      obtain ⟨a, vs, e1, h1, _, z1, ra⟩ := r'.lstV
      exact ⟨v, _, rfl, by rw [e1]; exact .inl ⟨vs, .of h1, ra.length.symm⟩, post_val (hK ▸ rs) p (.int _)⟩
    | tuple xs =>
      cases e
      obtain ⟨a, vs, e1, h1, z1, ra⟩ := r'.tupV
      exact ⟨v, _, rfl, by rw [e1]; exact .inr ⟨vs, h1, ra.length.symm⟩, post_val (hK ▸ rs) p (.int _)⟩
    | _ => cases e⟩
def gAbs : List D → Option T
  | [.int i] => some (.val (.int (if i < 0 then -i else i)))
  | _ => none
theorem bf_abs : BF G "abs" gAbs := ⟨"abs", _, by first | exact boot_abs | exact PyProof.Rows.boot_abs, fun X W k => call_abs, by
  intro G' W o c ρ S σ H vs ds t Q hK rs r e p
  unfold gAbs at e
  split at e
  · cases e
    obtain ⟨v, rfl, r'⟩ := r.one
    rw [r'.intV]
    exact ⟨_, rfl, post_val (hK ▸ rs) p (.int _)⟩
  · cases e⟩
def gMin2 : List D → Option T
  | [.int i, .int j] => some (.val (.int (if j < i then j else i)))
  | _ => none
theorem bf_min2 (hcm : G.hot = none := by rfl) : BF G "min" gMin2 := ⟨"min", _, by first | exact boot_min | exact PyProof.Rows.boot_min, fun X W k => call_min2 (k.calm hcm), by
  intro G' W o c ρ S σ H vs ds t Q hK rs r e p
  unfold gMin2 at e
  split at e
  · cases e
    obtain ⟨v, w, rfl, r1, r2⟩ := r.two
    rw [r1.intV, r2.intV]
    exact ⟨_, _, rfl, post_val (hK ▸ rs) p (.int _)⟩
  · cases e⟩
def gMax2 : List D → Option T
  | [.int i, .int j] => some (.val (.int (if j > i then j else i)))
  | _ => none
theorem bf_max2 (hcm : G.hot = none := by rfl) : BF G "max" gMax2 := ⟨"max", _, by first | exact boot_max | exact PyProof.Rows.boot_max, fun X W k => call_max2 (k.calm hcm), by
  intro G' W o c ρ S σ H vs ds t Q hK rs r e p
  unfold gMax2 at e
  split at e
  · cases e
    obtain ⟨v, w, rfl, r1, r2⟩ := r.two
    rw [r1.intV, r2.intV]
    exact ⟨_, _, rfl, post_val (hK ▸ rs) p (.int _)⟩
  · cases e⟩
def gInt1 : List D → Option T
  | [.int i] => some (.val (.int i))
  | [.bool b] => some (.val (.int (if b then 1 else 0)))
  | _ => none
theorem bt_int : BT G "int" gInt1 := ⟨"int", _, by first | exact boot_int | exact PyProof.Rows.boot_int, fun X W k => call_int1, by
  intro G' W o c ρ S σ H vs ds t Q hK rs r e p
  unfold gInt1 at e
  split at e
  · cases e
    obtain ⟨v, rfl, r'⟩ := r.one
    rw [r'.intV]
    exact .inl ⟨_, rfl, post_val (hK ▸ rs) p (.int _)⟩
  · cases e
    obtain ⟨v, rfl, r'⟩ := r.one
    rw [r'.blV]
    exact .inr ⟨_, rfl, post_val (hK ▸ rs) p (.int _)⟩
  · cases e⟩
def gTuple : List D → Option T
  | [.list xs] => some (.val (.tuple xs))
  | [.tuple xs] => some (.val (.tuple xs))
  | _ => none
theorem bt_tuple : BT G "tuple" gTuple := ⟨"tuple", _, by first | exact boot_tuple | exact PyProof.Rows.boot_tuple, fun X W k => by have := call_tuple_of (X := X); rw [k.K] at this; exact this, by
  intro G' W o c ρ S σ H vs ds t Q hK rs r e p
  rw [← hK] at r ⊢
  unfold gTuple at e
  split at e
  · cases e
    obtain ⟨v, rfl, r'⟩ := r.one
    obtain ⟨a, vs, e1, h1, _, z1, ra⟩ := r'.lstV
    subst e1
    exact ⟨a, vs, rfl, .inl ⟨.of h1, fun l n => post_tup (hK ▸ rs) p n z1 ra⟩⟩
  · cases e
    obtain ⟨v, rfl, r'⟩ := r.one
    obtain ⟨a, vs, e1, h1, z1, ra⟩ := r'.tupW
    subst e1
    exact ⟨a, vs, rfl, .inr ⟨h1, post_val (hK ▸ rs) p (.tup a vs _ h1 z1 ra)⟩⟩
  · cases e⟩
def gList : List D → Option T
  | [.list xs] => some (.own xs)
  | [.tuple xs] => some (.own xs)
  | _ => none
theorem bt_list : BT G "list" gList := ⟨"list", _, by first | exact boot_list | exact PyProof.Rows.boot_list, fun X W k => by have := call_list_of (X := X); rw [k.K] at this; exact this, by
  intro G' W o c ρ S σ H vs ds t Q hK rs r e p
  rw [← hK] at r ⊢
  unfold gList at e
  split at e
  · cases e
    obtain ⟨v, rfl, r'⟩ := r.one
    obtain ⟨a, vs, e1, h1, _, z1, ra⟩ := r'.lstV
    subst e1
    exact ⟨a, vs, rfl, .inl (.of h1), fun l n => post_own (hK ▸ rs) p n z1 ra⟩
  · cases e
    obtain ⟨v, rfl, r'⟩ := r.one
    obtain ⟨a, vs, e1, h1, z1, ra⟩ := r'.tupV
    subst e1
    exact ⟨a, vs, rfl, .inr h1, fun l n => post_own (hK ▸ rs) p n z1 ra⟩
  · cases e⟩
end
end BV
/-! The by-value calculus: calls of defs, a def's body. -/
namespace BV
open PySem L2

/-! ### what a def does -/
def Clean (o : Gh) : Prop := ∀ a w, o a = some w → w = .prot ∨ isCell w
def PostF (K : PySem.W.Frag) (mg : Str → Option Value) (o : Gh) (c : Cs) (H : Hp) (r : R T) (Q : VK) (E : XK) : Prop := match r with
  | .ok t S' => ∀ v o' c' H', Step isCell o c H o' c' H' → CS K o' c' S' H' → (∀ a i, o' a ≠ some (.slot i)) → RepT K o' c' H' .tmp v t → Q v H'
  | .exc e S' => ∀ cls d o' c' H', Step isCell o c H o' c' H' → CS K o' c' S' H' → (∀ a i, o' a ≠ some (.slot i)) → NT o' → ExcR mg H' cls d e → E cls d H'
  | .bad => False
def spD (K : PySem.W.Frag) (mg : Str → Option Value) (n : Nat) (f : Fn) : Sp := fun vs H Q E => vs.length = n ∧ ∃ ts S o c, RepTs K o c H vs ts ∧ Clean o ∧ CS K o c S H ∧ PostF K mg o c H (f ts S) Q E
/-- the def named x, of n parameters, does f; k calls deep -/
structure FnD (P : Program) (w : World) (K : PySem.W.Frag) (mg : Str → Option Value) (base : Heap) (cn : Bool) (k : Nat) (x : Str) (n : Nat) (f : Fn) : Prop where
  ex : ∃ (a : Addr) (fd : FuncData) (ps : List Str), mg x = some (.ref a) ∧ PySem.W.keepIn K (.ref a) = true ∧ Binds K fd ps [] ∧ ps.length = n ∧ FnOk P w K mg base (CXg cn P w) k a fd ps (spD K mg n f)
/-- the owners as a callee sees them -/
def forC (o : Gh) : Gh := fun a => match o a with
  | some (.cell n) => some (.cell n)
  | some _ => some .prot
  | none => none
/-- behind the call -/
def backC (o o' : Gh) : Gh := fun a => match o a with
  | some (.cell _) => o' a
  | some w => some w
  | none => o' a
section
variable {K : PySem.W.Frag} {o o1 o' : Gh} {c c' : Cs} {H H' : Hp} {S S' : Sto} {v : V} {t : T} {w : Ow} {ρ : En} {σ : L2.St}
theorem forC_none {a : Addr} : forC o a = none ↔ o a = none := by
  unfold forC
  constructor
  · intro h
    split at h <;> first | assumption | (cases h; done)
  · intro h
    rw [h]
theorem forC_clean : Clean (forC o) := fun a w h => by
  unfold forC at h
  split at h
  · cases h; exact .inr trivial
  · cases h; exact .inl rfl
  · cases h
theorem forC_cell {a : Addr} {n : Nat} : forC o a = some (.cell n) ↔ o a = some (.cell n) := by
  unfold forC
  constructor
  · intro h
    split at h
    · cases h; assumption
    · cases h
    · cases h
  · intro h
    rw [h]
theorem Kept.same (h : ∀ a, o a = none → o' a = none) : Kept o H o' H := fun a u e n => ⟨e, h a n⟩
theorem Trk.same (tr : Trk o H) (h : ∀ a, o' a ≠ none → o a ≠ none) : Trk o' H := fun a n => tr a (h a n)
theorem CS.same (q : CS K o c S H) (h : ∀ a, o a = none ↔ o' a = none) (hc : ∀ a n, o a = some (.cell n) → o' a = some (.cell n)) : CS K o' c S H :=
  q.move (Kept.same fun a e => (h a).mp e) (fun a n e => ⟨hc a n e, fun u hu => hu⟩) (q.trk.same fun a n e => n ((h a).mp e))
/-- owners renamed: the same are unowned, those of w stay -/
theorem RepT.same (tr : Trk o H) (h : ∀ a, o a = none → o' a = none) (hw : ∀ a, o a = some w → o' a = some w) (r : RepT K o c H w v t) : RepT K o' c H w v t := by
  have k : Kept o H o' H := Kept.same h
  cases t with
  | val d => exact Rep.kept tr k r
  | own xs =>
    obtain ⟨x, vs, e, q, h', z, ra⟩ := r
    exact ⟨x, vs, e, hw _ q, h', z, ra.kept tr k⟩
  | own2 xss =>
    obtain ⟨x, as, e, q, h', nd, z, le, f⟩ := r
    refine ⟨x, as, e, hw _ q, h', nd, z, le, fun i b xs e1 e2 => ?_⟩
    obtain ⟨q', vs, h'', z', ra⟩ := f i b xs e1 e2
    exact ⟨hw _ q', vs, h'', z', ra.kept tr k⟩
  | ownd kvs =>
    obtain ⟨x, ks, vs, ds, e, q, h', z, z2, ra, e'⟩ := r
    exact ⟨x, ks, vs, ds, e, hw _ q, h', z, z2, ra.kept tr k, e'⟩
  | cel n => exact r
  | scr ns =>
    obtain ⟨x, e, z, h'⟩ := r
    refine ⟨x, e, z, ?_⟩
    rcases h' with h' | ⟨h', n⟩ | h'
    · exact .inl h'
    · exact .inr (.inl ⟨h', h _ n⟩)
    · exact .inr (.inr h')
  | exn _ _ _ _ => exact r
  | tree d =>
    obtain ⟨as, r, nd⟩ := r
    exact ⟨as, r.move (fun x u e q => ⟨e, hw _ q⟩) (fun b us z => SqT.kept tr k z), nd⟩
/-- an argument's form asks no owner -/
theorem RepT.anyW {w' : Ow} (ea : asA t = t) (r : RepT K o c H w v t) : RepT K o c H w' v t := by
  cases t with
  | val d => exact r
  | own xs => cases ea
  | own2 xs => cases ea
  | ownd xs => cases ea
  | cel n => exact r
  | scr ns => exact r
  | exn _ _ _ _ => exact r
  | tree d => cases ea
theorem back_none (s : Step isCell (forC o) c H o' c' H') {a : Addr} : backC o o' a = none ↔ o' a = none := by
  unfold backC
  cases e : o a with
  | none => simp
  | some w =>
    cases w with
    | cell n => simp
    | _ =>
      have h1 : forC o a = some .prot := by unfold forC; rw [e]
      have h2 := s.own a _ h1 (fun z => z)
      simp [h2]
theorem back_step (s : Step isCell (forC o) c H o' c' H') : Step isCell o c H (backC o o') c' H' where
  keep := fun a u e n => s.keep a u e fun w hw hv => by
    cases q : o a with
    | none => have := (forC_none (o := o)).mpr q; rw [hw] at this; cases this
    | some w' =>
      cases w with
      | cell m =>
        have := forC_cell.mp hw
        exact n _ this trivial
      | _ => exact hv
  own := fun a w e n => by
    unfold backC
    rw [e]
    cases w with
    | cell m => exact absurd trivial n
    | _ => rfl
  new := fun a e n => by
    have e2 : backC o o' a = o' a := by unfold backC; rw [e]
    rw [e2] at n
    exact s.new a (forC_none.mpr e) n
  pre := s.pre
theorem back_cs (s : Step isCell (forC o) c H o' c' H') (q : CS K o' c' S' H') : CS K (backC o o') c' S' H' :=
  q.same (fun a => (back_none s).symm) fun a n e => by
    unfold backC
    cases e1 : o a with
    | none => exact e
    | some w =>
      cases w with
      | cell m => exact e
      | _ =>
        have h1 : forC o a = some .prot := by unfold forC; rw [e1]
        have h2 := s.own a _ h1 (fun z => z)
        rw [e] at h2; cases h2
theorem back_tmp (s : Step isCell (forC o) c H o' c' H') (q : CS K o' c' S' H') (r : RepT K o' c' H' .tmp v t) : RepT K (backC o o') c' H' .tmp v t :=
  r.same q.trk (fun a e => (back_none s).mpr e) fun a e => by
    unfold backC
    cases e1 : o a with
    | none => exact e
    | some w =>
      cases w with
      | cell m => exact e
      | _ =>
        have h1 : forC o a = some .prot := by unfold forC; rw [e1]
        have h2 := s.own a _ h1 (fun z => z)
        exact absurd (e.symm.trans h2) (by simp)
theorem back_nt (nt : NT o) (nt' : NT o') : NT (backC o o') := fun a e => by
  unfold backC at e
  cases e1 : o a with
  | none => rw [e1] at e; exact nt' a e
  | some w =>
    rw [e1] at e
    cases w with
    | cell m => exact nt' a e
    | tmp => exact nt a e1
    | prot => cases e
    | slot i => cases e
end
def cCall (f : Fn) (fs : SA) : SE := fun ρ S => R.l (fs ρ S) fun ts S1 => f ts S1
section
variable {G : Cc} {pos : Pos} {e : Expr} {es : List Expr}
theorem er_def {W : WX} {t : TA} {n : Nat} {f : Fn} {fs : SA} (h : AR G W t fs) (hn : ∀ ρ S ts S', fs ρ S = .ok ts S' → ts.length = n) : ER G W (tCallS (spD G.K G.mg n f) (WE W) t) (cCall f fs) := by
  intro σ H ρ S o c Q nt rs p
  unfold cCall at p
  refine h σ H ρ S o c _ nt rs ?_
  cases e0 : fs ρ S with
  | bad => rw [e0] at p; exact p
  | exc e' S' => rw [e0] at p; exact p
  | ok ts S1 =>
    rw [e0] at p
    have hl := hn _ _ _ _ e0
    intro vs o1 c1 H1 s1 nt1 rs1 r1
    have p1 : PostE G W o1 c1 ρ σ H1 (f ts S1) Q := PostE.step s1 p
    refine ⟨by rw [r1.1]; exact hl, ts, S1, forC o1, c1, ⟨r1.1, fun i v t e1 e2 => ?_⟩, forC_clean, rs1.cs.same (fun a => forC_none.symm) fun a n e => forC_cell.mpr e, ?_⟩
    · obtain ⟨q1, q2⟩ := r1.2 i v t e1 e2
      refine ⟨q1.same rs1.cs.trk (fun a e => forC_none.mpr e) (fun a e => by unfold forC; rw [e]), q2⟩
    · cases e : f ts S1 with
      | ok t S2 =>
        rw [e] at p1
        intro v o' c' H' s q ns r
        exact p1 v (backC o1 o') c' H' (back_step s) (rs1.step (back_step s) (back_cs s q)) (back_tmp s q r)
      | exc e' S2 =>
        rw [e] at p1
        intro cls d o' c' H' s q ns nt' x
        exact p1 cls d (backC o1 o') c' H' (back_step s) (rs1.step (back_step s) (back_cs s q)) (back_nt nt1 nt') x
      | bad => rw [e] at p1; exact p1.elim
theorem aNil_len {ρ : En} {S : Sto} {ts : List T} {S' : Sto} (h : aNil ρ S = .ok ts S') : ts.length = 0 := by cases h; rfl
theorem aCons_len {f : SE} {g : SA} {n : Nat} (hg : ∀ ρ S ts S', g ρ S = .ok ts S' → ts.length = n) : ∀ ρ S ts S', aCons f g ρ S = .ok ts S' → ts.length = n + 1 := by
  intro ρ S ts S' h
  unfold aCons at h
  cases e1 : f ρ S with
  | bad => rw [e1] at h; cases h
  | exc _ _ => rw [e1] at h; cases h
  | ok t S1 =>
    rw [e1, R.l_ok] at h
    cases e2 : g ρ S1 with
    | bad => rw [e2] at h; cases h
    | exc _ _ => rw [e2] at h; cases h
    | ok us S2 =>
      rw [e2, R.l_ok] at h
      cases h
      rw [List.length_cons, hg _ _ _ _ e2]
/-- an argument list of n arguments -/
structure AVn (G : Cc) (es : List Expr) (fs : SA) (n : Nat) : Prop where
  av : AV G es fs
  len : ∀ ρ S ts S', fs ρ S = .ok ts S' → ts.length = n
theorem avn_nil : AVn G [] aNil 0 := ⟨av_nil, fun _ _ _ _ h => aNil_len h⟩
theorem avn_cons {f : SE} {g : SA} {n : Nat} (h1 : EV G e f) (h2 : AVn G es g n) (hs : ∀ env : PySem.Env, starEach (e :: es) env = (false, eval e env) :: starEach es env := by intro _; rfl) : AVn G (e :: es) (aCons f g) (n + 1) :=
  ⟨av_cons h1 h2.av hs, aCons_len h2.len⟩
theorem ev_call {x : Str} {p : Pos} {j n : Nat} {f : Fn} {fs : SA} (F : FnD G.P G.w G.K G.mg G.base G.cn j x n f) (ha : AVn G (e :: es) fs n) (hcm : G.hot = none := by rfl) (hj : j ≤ G.k := by (try dsimp only [Cc.blk]); decide) (hg : G.sc.names.lookup x = some .globalImplicit := by rfl) (hdb : (x == ("__debug__" : Str)) = false := by decide)
    (he : ∀ env : PySem.Env, starEach (e :: es) env = (false, eval e env) :: starEach es env := by intro _; rfl) (hpl : ∀ env : PySem.Env, (backTo pos (starEach es env)).any (·.1) = false := by intro _; rfl) : EV G (.Call (.Name x p) (e :: es) [] pos) (cCall f fs) := by
  obtain ⟨⟨t, p1, q1⟩, hl⟩ := ha
  obtain ⟨a, fd, ps, hm, hk, hb, hn, hF⟩ := F.ex
  refine ⟨fun W => tCallS (spD G.K G.mg n f) (WE W) (t W), fun X W k => ?_, fun W => er_def (q1 W) hl⟩
  have hF' : FnOk X.prog X.w X.K X.mg X.base (CXg G.cn X.prog X.w) j a fd ps (spD G.K G.mg n f) := by rw [k.P, k.w, k.K, k.mg, k.base]; exact hF
  exact pe_callS hF' ((k.room0 hcm).mono hj) (k.gl hg) (k.m hm) (by rw [k.K]; exact hk) (by rw [k.K]; exact hb) (fun σ => tk_pass k.tk σ) (p1 X W k) hdb (he _) (hpl _)

/-! ### a def's body -/
def start0 (n : Nat) (ts : List T) : En := ts.map some ++ List.replicate (n - ts.length) none
abbrev start (N : List Str) (ts : List T) : En := start0 N.length ts
/-- a def with n names: what it does by its body -/
def fnL (n : Nat) (g : SS) : Fn := fun ts S => match g (start0 n ts) S with
  | .nx _ S' => .ok (.val .none) S'
  | .rt t S' => .ok t S'
  | .ex e _ S' => .exc e S'
  | _ => .bad
def isSlot : Ow → Bool
  | .slot _ => true
  | _ => false
theorem vol_clean {o o1 : Gh} {c c1 : Cs} {H H1 : Hp} (cl : Clean o) (s : Step isVol o c H o1 c1 H1) : Step isCell o c H (dropO isSlot o1) c1 H1 where
  keep := fun a u e n => s.keep a u e fun w hw hv => by
    rcases cl a w hw with h | h
    · subst h; exact hv
    · exact n w hw h
  own := fun a w e n => by
    rcases cl a w e with h | h
    · subst h
      exact dropO_some (s.own a _ e (fun z => z)) rfl
    · exact absurd h n
  new := fun a e n => s.new a e (dropO_ne n)
  pre := s.pre
theorem noslot {o : Gh} (a : Addr) (i : Nat) : dropO isSlot o a ≠ some (.slot i) := fun h => by
  have := (dropO_of h).2
  simp [isSlot] at this
abbrev fnF (N : List Str) (g : SS) : Fn := fnL N.length g
theorem tk_of {cn : Bool} {P : Program} {w : World} {K : PySem.W.Frag} {mg : Str → Option Value} {base : Heap} {N : List Str} {qual : Str} {sc : Scope} {f : Addr} {cdv : Value} {A : Around} {outer : List PySem.Env} {s : Shared} {H : Hp} {E : XK} :
    Tk cn (cxOf (CXg cn P w) P w K mg base N qual sc f cdv A outer s H E) (fun cls d _ H => E cls d H) := by
  cases cn with
  | true => exact L2N.takes_of rfl rfl rfl rfl
  | false => exact L2.takes_of rfl rfl rfl rfl
/-- THE RULE for a def -/
theorem fn_ok {P : Program} {w : World} {K : PySem.W.Frag} {mg : Str → Option Value} {base : Heap} {cn : Bool} {k : Nat} {x qual : Str} {st : Stmt} {f : Addr} {fd : FuncData} {N ps : List Str} {g : SS}
    {cod : Option (Addr × Str)} (F : Fun K x qual st f fd) (Sc : FnScope N ps (defScope st)) (hlen : ps.length ≤ N.length) (hco : cod = none ∨ (f = He.fAd K (x, none) ∧ cod = some (He.codeOf K (x, none), qual ++ ".<locals>.")))
    (h : SVs ⟨P, w, K, mg, base, N, defScope st, fun _ => true, k, true, none, cn, true, cod⟩ (defBody st) g) : FnOk P w K mg base (CXg cn P w) (k + 1) f fd ps (spD K mg ps.length (fnF N g)) := by
  obtain ⟨oc, od, kV, doc, pm, an, cdv, ct, osl, rfl, lk, hcd⟩ := F.ex
  refine fn_of lk hcd Sc (fun vs H Q E h => h.1) fun A outer s H vs Q E hr hsp => ?_
  obtain ⟨t, p, q⟩ := h
  obtain ⟨hl, ts, S, o, c, rts, cl, cs, post⟩ := hsp
  have hcod : ∀ c q, cod = some (c, q) → cdv = .ref c ∧ qual ++ ".<locals>." = q := fun c q e => by
    rcases hco with z | ⟨z1, z2⟩
    · rw [z] at e; cases e
    · rw [z2] at e
      cases e
      obtain ⟨c, hc⟩ := He.codeIn_ref hcd
      subst hc
      subst z1
      exact ⟨by rw [He.codeOf_eq lk rfl], rfl⟩
  have ok : (⟨P, w, K, mg, base, N, defScope st, fun _ => true, k, true, none, cn, true, cod⟩ : Cc).Ok (cxOf (CXg cn P w) P w K mg base N qual (defScope st) f cdv A outer s H E) (fun cls d _ H => E cls d H) :=
    ⟨rfl, rfl, rfl, rfl, rfl, rfl, rfl, rfl, fun _ => rfl, ⟨hr.dp, hr.un⟩, tk_of, PassesOwn.leaving, fun _ => hr.hd, fun _ => ⟨rfl, rfl⟩, fun _ h => (nomatch h), fun _ _ => PassesOwnAt.leaving, hcod⟩
  refine ⟨t _, p _ _ ok, q _ (L2.start N vs) H (BV.start N ts) S o c _ ?_ ⟨?_, ?_, cs⟩ ?_⟩
  · intro a e
    rcases cl a _ e with h | h
    · cases h
    · exact h
  · unfold BV.start BV.start0 L2.start
    rw [List.length_append, List.length_append, List.length_map, List.length_map, List.length_replicate, List.length_replicate, rts.1]
  · intro i t' e
    unfold BV.start BV.start0 at e
    by_cases hi : i < ts.length
    · rw [List.getElem?_append_left (by rw [List.length_map]; exact hi), List.getElem?_map] at e
      have hv : i < vs.length := by rw [rts.1]; exact hi
      have e1 : vs[i]? = some vs[i] := List.getElem?_eq_getElem hv
      have e2 : ts[i]? = some t' := by
        cases e3 : ts[i]? with
        | none => rw [e3] at e; cases e
        | some u => rw [e3] at e; simp only [Option.map_some, Option.some.injEq] at e; rw [e]
      obtain ⟨q1, q2⟩ := rts.2 i _ t' e1 e2
      refine ⟨vs[i], ?_, q1.anyW q2⟩
      unfold L2.start
      rw [List.getElem?_append_left (by rw [List.length_map]; exact hv), List.getElem?_map, e1]
      rfl
    · rw [List.getElem?_append_right (by rw [List.length_map]; omega)] at e
      rw [List.getElem?_replicate] at e
      split at e <;> cases e
  · unfold fnF fnL at post
    cases e : g (BV.start N ts) S with
    | nx ρ' S' =>
      rw [e] at post
      intro σ' o' c' H' s' nt' rs'
      exact post .non (dropO isSlot o') c' H' (vol_clean cl s') (rs'.cs.drop fun _ => rfl) noslot (Rep.non)
    | rt t0 S' =>
      rw [e] at post
      intro v o' c' H' s' cs' r'
      exact post v (dropO isSlot o') c' H' (vol_clean cl s') (cs'.drop fun _ => rfl) noslot (r'.drop cs'.trk rfl)
    | ex e' ρ' S' =>
      rw [e] at post
      intro cls d σ' o' c' H' s' nt' rs' x
      exact post cls d (dropO isSlot o') c' H' (vol_clean cl s') (rs'.cs.drop fun _ => rfl) noslot (fun a h => nt' a (dropO_of h).1) x
    | bk ρ' S' => rw [e] at post; exact post.elim
    | ct ρ' S' => rw [e] at post; exact post.elim
    | bad => rw [e] at post; exact post.elim
theorem fn_body {P : Program} {w : World} {K : PySem.W.Frag} {mg : Str → Option Value} {base : Heap} {cn : Bool} {k : Nat} {x qual : Str} {st : Stmt} {f : Addr} {fd : FuncData} {N ps : List Str} {g : SS}
    {cod : Option (Addr × Str)} (F : Fun K x qual st f fd) (Sc : FnScope N ps (defScope st)) (hm : mg x = some (.ref f)) (hb : Binds K fd ps []) (hlen : ps.length ≤ N.length) (hco : cod = none ∨ (f = He.fAd K (x, none) ∧ cod = some (He.codeOf K (x, none), qual ++ ".<locals>.")))
    (h : SVs ⟨P, w, K, mg, base, N, defScope st, fun _ => true, k, true, none, cn, true, cod⟩ (defBody st) g) : FnD P w K mg base cn (k + 1) x ps.length (fnF N g) :=
  ⟨f, fd, ps, hm, F.kp, hb, rfl, fn_ok F Sc hlen hco h⟩
end
end BV
/-! The by-value calculus: statements. -/
namespace BV
open PySem L2

/-! ### a slot is stored -/
/-- what is temporary becomes slot i's; what slot i had is let go -/
def reT (i : Nat) (o : Gh) : Gh := fun a => match o a with
  | some .tmp => some (.slot i)
  | some (.slot j) => if j = i then none else some (.slot j)
  | x => x
section
variable {K : PySem.W.Frag} {o o1 o' : Gh} {c c' : Cs} {H H' : Hp} {S S' : Sto} {v : V} {t : T} {w : Ow} {ρ : En} {σ : L2.St} {i : Nat}
theorem reT_none {a : Addr} (h : o a = none) : reT i o a = none := by unfold reT; rw [h]
theorem reT_ne {a : Addr} (h : reT i o a ≠ none) : o a ≠ none := fun e => h (reT_none e)
theorem reT_tmp {a : Addr} (h : o a = some .tmp) : reT i o a = some (.slot i) := by unfold reT; rw [h]
theorem reT_cell {a : Addr} {n : Nat} (h : o a = some (.cell n)) : reT i o a = some (.cell n) := by unfold reT; rw [h]
theorem reT_prot {a : Addr} (h : o a = some .prot) : reT i o a = some .prot := by unfold reT; rw [h]
theorem reT_slot {a : Addr} {j : Nat} (h : o a = some (.slot j)) (n : j ≠ i) : reT i o a = some (.slot j) := by unfold reT; rw [h]; simp [n]
theorem reT_nt : NT (reT i o) := fun a h => by
  unfold reT at h
  cases e : o a with
  | none => rw [e] at h; cases h
  | some w =>
    rw [e] at h
    cases w with
    | slot j =>
      by_cases q : j = i
      · simp [q] at h
      · simp [q] at h
    | tmp => cases h
    | prot => cases h
    | cell n => cases h
theorem reT_kept : Kept o H (reT i o) H := Kept.same fun _ e => reT_none e
/-- owners changed: what is of w becomes of w' -/
theorem RepT.turn {w' : Ow} (tr : Trk o H) (h : ∀ a, o a = none → o' a = none) (hw : ∀ a, o a = some w → o' a = some w') (r : RepT K o c H w v t) : RepT K o' c H w' v t := by
  have k : Kept o H o' H := Kept.same h
  cases t with
  | val d => exact Rep.kept tr k r
  | own xs =>
    obtain ⟨x, vs, e, q, h', z, ra⟩ := r
    exact ⟨x, vs, e, hw _ q, h', z, ra.kept tr k⟩
  | own2 xss =>
    obtain ⟨x, as, e, q, h', nd, z, le, f⟩ := r
    refine ⟨x, as, e, hw _ q, h', nd, z, le, fun i b xs e1 e2 => ?_⟩
    obtain ⟨q', vs, h'', z', ra⟩ := f i b xs e1 e2
    exact ⟨hw _ q', vs, h'', z', ra.kept tr k⟩
  | ownd kvs =>
    obtain ⟨x, ks, vs, ds, e, q, h', z, z2, ra, e'⟩ := r
    exact ⟨x, ks, vs, ds, e, hw _ q, h', z, z2, ra.kept tr k, e'⟩
  | cel n => exact r
  | scr ns =>
    obtain ⟨x, e, z, h'⟩ := r
    refine ⟨x, e, z, ?_⟩
    rcases h' with h' | ⟨h', n⟩ | h'
    · exact .inl h'
    · exact .inr (.inl ⟨h', h _ n⟩)
    · exact .inr (.inr h')
  | exn _ _ _ _ => exact r
  | tree d =>
    obtain ⟨as, r, nd⟩ := r
    exact ⟨as, r.move (fun x u e q => ⟨e, hw _ q⟩) (fun b us z => SqT.kept tr k z), nd⟩
theorem CS.turn (q : CS K o c S H) (h : ∀ a, o a = none → o' a = none) (hc : ∀ a n, o a = some (.cell n) → o' a = some (.cell n)) (hn : ∀ a, o' a ≠ none → o a ≠ none) : CS K o' c S H :=
  q.move (Kept.same h) (fun a n e => ⟨hc a n e, fun u hu => hu⟩) (q.trk.same hn)
theorem RS.put (rs : RS K o c ρ S σ H) (r : RepT K o c H .tmp v t) : RS K (reT i o) c (ρ.set i (some t)) S (σ.set i (some v)) H :=
  ⟨by rw [List.length_set, List.length_set]; exact rs.len, fun j t' e => by
    by_cases q : j = i
    · subst q
      by_cases hl : j < ρ.length
      · rw [List.getElem?_set_self hl] at e
        simp only [Option.some.injEq] at e
        subst e
        exact ⟨v, by rw [List.getElem?_set_self (by rw [← rs.len]; exact hl)], r.turn rs.cs.trk (fun a e => reT_none e) fun a e => reT_tmp e⟩
      · rw [List.getElem?_eq_none (by rw [List.length_set]; omega)] at e; cases e
    · rw [List.getElem?_set_ne (Ne.symm q)] at e
      obtain ⟨v', e1, r'⟩ := rs.slot j t' e
      exact ⟨v', by rw [List.getElem?_set_ne (Ne.symm q)]; exact e1, r'.turn rs.cs.trk (fun a e => reT_none e) fun a e => reT_slot e q⟩,
   rs.cs.turn (fun a e => reT_none e) (fun a n e => reT_cell e) fun a e => reT_ne e⟩
theorem Step.re (s : Step isVol o c H o1 c' H') : Step isVol o c H (reT i o1) c' H' where
  keep := s.keep
  own := fun a w e n => by
    have h := s.own a w e n
    cases w with
    | prot => exact reT_prot h
    | _ => exact absurd trivial n
  new := fun a e n => s.new a e (reT_ne n)
  pre := s.pre
/-- a name is forgotten -/
theorem RS.forget (rs : RS K o c ρ S σ H) : RS K o c (ρ.set i none) S σ H :=
  ⟨by rw [List.length_set]; exact rs.len, fun j t' e => by
    by_cases q : j = i
    · subst q
      by_cases hl : j < ρ.length
      · rw [List.getElem?_set_self hl] at e; cases e
      · rw [List.getElem?_eq_none (by rw [List.length_set]; omega)] at e; cases e
    · rw [List.getElem?_set_ne (Ne.symm q)] at e
      exact rs.slot j t' e, rs.cs⟩
end

/-- behind an expression in a statement -/
def sE (f : SE) (k : T → En → Sto → Fl) : SS := fun ρ S => match f ρ S with
  | .ok t S1 => k t ρ S1
  | .exc e S1 => .ex e ρ S1
  | .bad => .bad
section
variable {G : Cc} {W : WX} {o o1 : Gh} {c c1 : Cs} {ρ : En} {σ : L2.St} {H H1 : Hp} {pos : Pos} {a b : Expr} {f f1 f2 f3 : SE} {e : Expr} {Dn : Ends} {t : TE}
theorem ER.s {k : T → En → Sto → Fl} {S : Sto} {Q : VK} (h : ER G W t f) (nt : NT o) (rs : RS G.K o c ρ S σ H) (p : PostS G W o c H (sE f k ρ S) Dn)
    (q : ∀ t S1 v o1 c1 H1, Step isCell o c H o1 c1 H1 → RS G.K o1 c1 ρ S1 σ H1 → RepT G.K o1 c1 H1 .tmp v t → PostS G W o1 c1 H1 (k t ρ S1) Dn → Q v H1) : t σ H Q := by
  refine h σ H ρ S o c Q nt rs ?_
  unfold sE at p
  cases e : f ρ S with
  | ok t S1 =>
    rw [e] at p
    exact fun v o' c' H' s rs' r' => q t S1 v o' c' H' s rs' r' (PostS.step s.weak p)
  | exc e S1 =>
    rw [e] at p
    exact fun cls d o' c' H' s rs' nt' x => p cls d σ o' c' H' s.weak nt' rs' x
  | bad => rw [e] at p; exact p
/-- .. its data -/
def sD (f : SE) (k : D → En → Sto → Fl) : SS := sE f fun t ρ S => match BV.asD t with | some d => k d ρ S | none => .bad
theorem URd.s {k : BV.D → En → Sto → Fl} {S : Sto} {Q : VK} (h : URd G W t f) (nt : NT o) (rs : RS G.K o c ρ S σ H) (p : PostS G W o c H (sD f k ρ S) Dn)
    (q : ∀ d S1 v o1 c1 H1, Step isCell o c H o1 c1 H1 → NT o1 → RS G.K o1 c1 ρ S1 σ H1 → RepU G.K o1 H1 v d → PostS G W o1 c1 H1 (k d ρ S1) Dn → Q v H1) : t σ H Q := by
  refine h σ H ρ S o c Q nt rs ?_
  unfold sD sE at p
  cases e : f ρ S with
  | ok t S1 =>
    rw [e] at p
    cases e1 : asD t with
    | none => simp only [e1] at p; exact p.elim
    | some d =>
      simp only [e1] at p
      exact ⟨d, e1, fun v o' c' H' s nt' rs' r' => q d S1 v o' c' H' s nt' rs' r' (PostS.step s.weak p)⟩
  | exc e S1 =>
    rw [e] at p
    exact fun cls d o' c' H' s rs' nt' x => p cls d σ o' c' H' s.weak nt' rs' x
  | bad => rw [e] at p; exact p

/-! ### name = e, return e, if -/
def sAsg (i : Nat) (f : SE) : SS := sE f fun t ρ S => .nx (ρ.set i (some t)) S
theorem sv_asg (i : Nat) {x : Str} {pos' : Pos} (h : EV G e f) (hN : G.N[i]? = some x := by rfl) (hx : Loc G.sc x := by first | exact Or.inl rfl | exact Or.inr rfl) (nd : G.N.Nodup := by (try dsimp only [Cc.blk]); decide +kernel)
    (hs : ∀ env : PySem.Env, env.scope = G.sc → swapsWith e (some (.Name x pos')) pos.line env = pure false := by intro _ _; rfl) (hf : G.fn x = true ∨ G.sc.names.lookup x = some .local := by first | exact Or.inl rfl | exact Or.inr rfl) : SV G (.Assign [.Name x pos'] e pos) (sAsg i f) := by
  obtain ⟨t, p, q⟩ := h
  refine ⟨fun W => tAsg (t W) (gName i), fun X W k => ps_set (k.nd nd) (k.at hN) (k.loc hx) (p X W k) (hs _ k.sc) (k.hf hf), fun W σ H ρ S o c D nt rs ps => ?_⟩
  exact (q W).s nt rs ps fun t S1 v o1 c1 H1 s1 rs1 r1 p1 => p1 _ (reT i o1) c1 H1 Step.refl.re reT_nt (rs1.put r1)
def sRet (f : SE) : SS := sE f fun t _ S => .rt t S
theorem sv_ret (h : EV G e f) : SV G (.Return (some e) pos) (sRet f) := by
  obtain ⟨t, p, q⟩ := h
  refine ⟨fun W => tRet (t W), fun X W k => ps_ret (p X W k), fun W σ H ρ S o c D nt rs ps => ?_⟩
  exact (q W).s nt rs ps fun t S1 v o1 c1 H1 s1 rs1 r1 p1 => p1 v o1 c1 H1 Step.refl rs1.cs r1
def sRetN : SS := fun _ S => .rt (.val .none) S
theorem sv_retN : SV G (.Return none pos) sRetN := ⟨fun _ => tRetN, fun _ _ _ => ps_retN, fun W σ H ρ S o c D nt rs ps => ps .non o c H Step.refl rs.cs Rep.non⟩
/-- return of a name: its own list goes with it -/
def sRetV (i : Nat) : SS := fun ρ S => match ρ[i]? with
  | some (some t) => .rt t S
  | _ => .bad
/-- what slot i has becomes temporary -/
def toT (i : Nat) (o : Gh) : Gh := fun a => if o a = some (.slot i) then some .tmp else o a
theorem toT_none {i : Nat} {a : Addr} : toT i o a = none ↔ o a = none := by
  unfold toT
  by_cases h : o a = some (.slot i)
  · rw [if_pos h, h]; simp
  · rw [if_neg h]
theorem sv_retV (i : Nat) {x : Str} {xpos : Pos} (hN : G.N[i]? = some x := by rfl) (hv : Vis G.sc x := by first | exact Or.inl rfl | exact Or.inr (Or.inl rfl) | exact Or.inr (Or.inr rfl))
    (hd : (x == ("__debug__" : Str)) = false := by decide) (hcd : (x == ("__classdict__" : Str)) = false := by decide) : SV G (.Return (some (.Name x xpos)) pos) (sRetV i) := by
  refine ⟨fun _ => tRet (tVar i), fun X W k => ps_ret (pe_var (k.at hN) (k.vis hv) hd hcd), fun W σ H ρ S o c D nt rs p => ?_⟩
  unfold sRetV at p
  split at p
  · rename_i t e
    obtain ⟨v, e1, r⟩ := rs.slot i t e
    refine ⟨v, e1, p v (toT i o) c H ⟨fun a u e _ => e, fun a w e n => ?_, fun a e n => absurd (toT_none.mpr e) n, List.prefix_refl c⟩ (rs.cs.turn (fun a e => toT_none.mpr e) (fun a n e => ?_) fun a n e => n (toT_none.mpr e))
      (r.turn rs.cs.trk (fun a e => toT_none.mpr e) fun a e => by unfold toT; rw [if_pos e])⟩
    · unfold toT
      rw [if_neg (fun z => by rw [e] at z; cases z; exact n trivial)]
      exact e
    · unfold toT
      rw [if_neg (fun z => by rw [e] at z; cases z)]
      exact e
  · exact p.elim
def sIf (g : SB) (f1 f2 : SS) : SS := fun ρ S => match g ρ S with
  | .ok b S1 => if b = true then f1 ρ S1 else f2 ρ S1
  | .exc e S1 => .ex e ρ S1
  | .bad => .bad
theorem sv_if {cc : Expr} {as bs : List Stmt} {g : SB} {u1 u2 : SS} (h : TV G cc g) (h1 : SVs G as u1) (h2 : SVs G bs u2) : SV G (.If cc as bs pos) (sIf g u1 u2) := by
  obtain ⟨t, p, q⟩ := h
  obtain ⟨t1, p1, q1⟩ := h1
  obtain ⟨t2, p2, q2⟩ := h2
  refine ⟨fun W => tIfS (t W) (t1 W) (t2 W), fun X W k => ps_if (p X W k) (p1 X W k) (p2 X W k), fun W σ H ρ S o c D nt rs ps => ?_⟩
  refine q W σ H ρ S o c _ nt rs ?_
  unfold sIf at ps
  cases e : g ρ S with
  | ok b S1 =>
    rw [e] at ps
    intro o1 c1 H1 s1 nt1 rs1
    cases b with
    | true =>
      rw [if_pos rfl]
      simp only [if_true] at ps
      exact q1 W σ H1 ρ S1 o1 c1 D nt1 rs1 (PostS.step s1.weak ps)
    | false =>
      rw [if_neg Bool.false_ne_true]
      simp only [Bool.false_eq_true, if_false] at ps
      exact q2 W σ H1 ρ S1 o1 c1 D nt1 rs1 (PostS.step s1.weak ps)
  | exc e S1 =>
    rw [e] at ps
    exact fun cls d o' c' H' s rs' nt' x => ps cls d σ o' c' H' s.weak nt' rs' x
  | bad => rw [e] at ps; exact ps
def sBrk : SS := fun ρ S => .bk ρ S
def sCnt : SS := fun ρ S => .ct ρ S
theorem sv_break : SV G (.Break pos) sBrk := ⟨fun _ => tBreak, fun _ _ _ => ps_break, fun W σ H ρ S o c D nt rs ps => ps σ o c H Step.refl nt rs⟩
theorem sv_continue : SV G (.Continue pos) sCnt := ⟨fun _ => tCont, fun _ _ _ => ps_continue, fun W σ H ρ S o c D nt rs ps => ps σ o c H Step.refl nt rs⟩
theorem sv_pass : SV G (.Pass pos) sSkip := ⟨fun _ => tNext, fun _ _ _ => ps_pass, fun W σ H ρ S o c D nt rs ps => ps σ o c H Step.refl nt rs⟩
/-- an expression whose value is dropped -/
def sExpr (f : SE) : SS := sE f fun _ ρ S => .nx ρ S
theorem sv_expr (h : EV G e f) (hs : ∀ env : PySem.Env, swapsWith e none pos.line env = pure false := by intro _; rfl) : SV G (.Expr e pos) (sExpr f) := by
  obtain ⟨t, p, q⟩ := h
  refine ⟨fun W => tDrop (t W), fun X W k => ps_expr (p X W k) (hs _), fun W σ H ρ S o c D nt rs ps => ?_⟩
  exact (q W).s nt rs ps fun t S1 v o1 c1 H1 s1 rs1 r1 p1 => p1 σ (unT o1) c1 H1 (⟨fun a u e _ => e, fun a w e n => dropO_some e (by cases w <;> first | rfl | exact absurd trivial n), fun a e n => absurd (dropO_none e) n, List.prefix_refl c1⟩) unT_nt rs1.untmp

/-! ### a name's own list becomes data -/
/-- slot i's list is let go -/
def isSl (i : Nat) : Ow → Bool
  | .slot j => decide (j = i)
  | _ => false
def fz (i : Nat) (ρ : En) : Option En := match ρ[i]? with
  | some (some t) => (asD t).map fun d => ρ.set i (some (.val d))
  | _ => none
def sFz (i : Nat) (g : SS) : SS := fun ρ S => match fz i ρ with
  | some ρ' => g ρ' S
  | none => .bad
theorem svs_fz (i : Nat) {sts : List Stmt} {g : SS} (h : SVs G sts g) : SVs G sts (sFz i g) := by
  obtain ⟨t, p, q⟩ := h
  refine ⟨t, p, fun W σ H ρ S o c D nt rs ps => ?_⟩
  unfold sFz fz at ps
  cases e : ρ[i]? with
  | none => rw [e] at ps; exact ps.elim
  | some u =>
    cases u with
    | none => rw [e] at ps; exact ps.elim
    | some tt =>
      rw [e] at ps
      cases e1 : asD tt with
      | none => simp only [e1, Option.map_none] at ps; exact ps.elim
      | some d =>
        simp only [e1, Option.map_some] at ps
        obtain ⟨v, ev, r⟩ := rs.slot i tt e
        have hi := (List.getElem?_eq_some_iff.mp e).1
        -- its owner: temporary, then let go
        have r1 : RepT G.K (toT i o) c H .tmp v tt := r.turn rs.cs.trk (fun a e => toT_none.mpr e) fun a e => by unfold toT; rw [if_pos e]
        have tr1 : Trk (toT i o) H := rs.cs.trk.same fun a n e => n (toT_none.mpr e)
        have r2 := r1.toD tr1 e1
        have un : ∀ a, unT (toT i o) a = dropO (isSl i) o a := fun a => by
          unfold unT dropO toT
          by_cases h : o a = some (.slot i)
          · rw [if_pos h, h]; simp [isTmp, isSl]
          · rw [if_neg h]
            cases e : o a with
            | none => rfl
            | some w =>
              cases w with
              | slot j =>
                have : ¬ j = i := fun z => h (by rw [e, z])
                simp [isTmp, isSl, this]
              | tmp => exact absurd e (nt a)
              | _ => rfl
        have un' : unT (toT i o) = dropO (isSl i) o := funext un
        rw [un'] at r2
        have s : Step isVol o c H (dropO (isSl i) o) c H := ⟨fun a u e _ => e, fun a w e n => dropO_some e (by cases w <;> first | rfl | exact absurd trivial n), fun a e n => absurd (dropO_none e) n, List.prefix_refl c⟩
        refine q W σ H _ S (dropO (isSl i) o) c D (fun a h => nt a (dropO_of h).1) ⟨by rw [List.length_set]; exact rs.len, fun j t' ej => ?_, rs.cs.drop fun _ => rfl⟩ (PostS.step s ps)
        by_cases hj : j = i
        · subst hj
          rw [List.getElem?_set_self hi] at ej
          simp only [Option.some.injEq] at ej
          subst ej
          exact ⟨v, ev, r2⟩
        · rw [List.getElem?_set_ne (Ne.symm hj)] at ej
          obtain ⟨v', e2, r3⟩ := rs.slot j t' ej
          exact ⟨v', e2, r3.drop rs.cs.trk (by simp [isSl, hj])⟩
end
end BV
/-! The by-value calculus: targets, what is walked, for, while, list comprehensions. -/
namespace BV
open PySem L2

/-! ### targets -/
abbrev BT1 := D → En → Option En
def GR (K : PySem.W.Frag) (L : List Nat) (g : TG) (b : BT1) : Prop := ∀ (σ : L2.St) (H : Hp) (ρ ρ' : En) (S : Sto) (o : Gh) (c : Cs) (v : V) (d : D) (Q : L2.St → Hp → Prop), NT o → RS K o c ρ S σ H → Rep K o H v d → b d ρ = some ρ' →
  (∀ σ', RS K o c ρ' S σ' H → (∀ (j : Nat), j ∉ L → σ'[j]? = σ[j]?) → σ'.length = σ.length → Q σ' H) → g v σ H Q
def GV (G : Cc) (tg : Expr) (L : List Nat) (b : BT1) : Prop := ∃ g : TG, (∀ X W, G.Ok X W → PG X tg g) ∧ GR G.K L g b
def bName (i : Nat) : BT1 := fun d ρ => some (ρ.set i (some (.val d)))
theorem RS.putV {K : PySem.W.Frag} {o : Gh} {c : Cs} {ρ : En} {S : Sto} {σ : L2.St} {H : Hp} {v : V} {d : D} {i : Nat} (rs : RS K o c ρ S σ H) (r : Rep K o H v d) : RS K o c (ρ.set i (some (.val d))) S (σ.set i (some v)) H :=
  ⟨by rw [List.length_set, List.length_set]; exact rs.len, fun j t' e => by
    by_cases q : j = i
    · subst q
      by_cases hl : j < ρ.length
      · rw [List.getElem?_set_self hl] at e
        simp only [Option.some.injEq] at e
        subst e
        exact ⟨v, by rw [List.getElem?_set_self (by rw [← rs.len]; exact hl)], r⟩
      · rw [List.getElem?_eq_none (by rw [List.length_set]; omega)] at e; cases e
    · rw [List.getElem?_set_ne (Ne.symm q)] at e
      obtain ⟨v', e1, r'⟩ := rs.slot j t' e
      exact ⟨v', by rw [List.getElem?_set_ne (Ne.symm q)]; exact e1, r'⟩, rs.cs⟩
section
variable {G : Cc} {W : WX} {pos : Pos}
theorem gv_name (i : Nat) {x : Str} (hN : G.N[i]? = some x := by rfl) (hx : Loc G.sc x := by first | exact Or.inl rfl | exact Or.inr rfl) (nd : G.N.Nodup := by (try dsimp only [Cc.blk]); decide +kernel)
    (hf : G.fn x = true ∨ G.sc.names.lookup x = some .local := by first | exact Or.inl rfl | exact Or.inr rfl) : GV G (.Name x pos) [i] (bName i) := by
  refine ⟨gName i, fun X W k => pg_name (k.nd nd) (k.at hN) (k.loc hx) (k.hf hf), fun σ H ρ ρ' S o c v d Q nt rs r e q => ?_⟩
  cases e
  exact q _ (rs.putV r) (fun j hj => by rw [List.getElem?_set_ne (fun z => hj (by simp [z]))]) (by rw [List.length_set])
/-- several, one behind the other -/
abbrev BTs := List D → En → Option En
def GRs (K : PySem.W.Frag) (L : List Nat) (g : TGs) (b : BTs) : Prop := ∀ (σ : L2.St) (H : Hp) (ρ ρ' : En) (S : Sto) (o : Gh) (c : Cs) (vs : List V) (ds : List D) (Q : L2.St → Hp → Prop), NT o → RS K o c ρ S σ H → RepAll K o H vs ds → b ds ρ = some ρ' →
  (∀ σ', RS K o c ρ' S σ' H → (∀ (j : Nat), j ∉ L → σ'[j]? = σ[j]?) → σ'.length = σ.length → Q σ' H) → g vs σ H Q
def GVs (G : Cc) (tg : List Expr) (L : List Nat) (b : BTs) : Prop := ∃ g : TGs, (∀ X W, G.Ok X W → PGs X tg g) ∧ GRs G.K L g b
def bNil : BTs := fun ds ρ => match ds with | [] => some ρ | _ => none
def bCons (b : BT1) (bs : BTs) : BTs := fun ds ρ => match ds with | d :: r => (b d ρ).bind (bs r) | [] => none
theorem gvs_nil : GVs G [] [] bNil := by
  refine ⟨gNil, fun X W k => pgs_nil, fun σ H ρ ρ' S o c vs ds Q nt rs r e q => ?_⟩
  cases r with
  | nil =>
    cases e
    exact ⟨rfl, q σ rs (fun _ _ => rfl) rfl⟩
  | cons _ _ _ _ _ _ => cases e
theorem gvs_cons {e : Expr} {es : List Expr} {L1 L2 : List Nat} {b : BT1} {bs : BTs} (h1 : GV G e L1 b) (h2 : GVs G es L2 bs)
    (hs : ∀ env : PySem.Env, (assignEach (e :: es) env).map (·.2) = assign e env :: (assignEach es env).map (·.2) := by intro _; rfl) : GVs G (e :: es) (L1 ++ L2) (bCons b bs) := by
  obtain ⟨g1, p1, q1⟩ := h1
  obtain ⟨g2, p2, q2⟩ := h2
  refine ⟨gCons g1 g2, fun X W k => pgs_cons (p1 X W k) (p2 X W k) (hs _), fun σ H ρ ρ' S o c vs ds Q nt rs r e q => ?_⟩
  cases r with
  | nil => cases e
  | cons v d vs ds r1 r2 =>
    have e' : (b d ρ).bind (bs ds) = some ρ' := e
    cases e1 : b d ρ with
    | none => rw [e1] at e'; cases e'
    | some ρ1 =>
      rw [e1] at e'
      refine ⟨v, vs, rfl, q1 σ H ρ ρ1 S o c v d _ nt rs r1 e1 fun σ1 rs1 f1 l1 => ?_⟩
      refine q2 σ1 H ρ1 ρ' S o c vs ds Q nt rs1 r2 e' fun σ2 rs2 f2 l2 => ?_
      refine q σ2 rs2 (fun j hj => ?_) (l2.trans l1)
      rw [List.mem_append, not_or] at hj
      rw [f2 j hj.2, f1 j hj.1]
def bTup (n : Nat) (bs : BTs) : BT1 := fun d ρ => match d with
  | .tuple ds => if ds.length = n then bs ds ρ else none
  | .list ds => if ds.length = n then bs ds ρ else none
  | _ => none
theorem pg_or {X : Cx} {tg : Expr} {g g' : TG} (h : PG X tg g) (h' : PG X tg g') : PG X tg (fun v σ H Q => g v σ H Q ∨ g' v σ H Q) := ⟨fun pins s σ H v u Q I r q => q.elim (h.run pins s σ H v u Q I r) (h'.run pins s σ H v u Q I r)⟩
theorem gv_tup {es : List Expr} {kk n : Nat} {L : List Nat} {bs : BTs} (h : GVs G es L bs) (hcm : G.hot = none := by rfl) (hn : ∀ env : PySem.Env, (assignEach es env).length = n := by intro _; rfl) (hst : ∀ env : PySem.Env, (assignEach es env).findIdx? (·.1) = none := by intro _; rfl) :
    GV G (.Tuple es kk pos) L (bTup n bs) := by
  obtain ⟨g, p, q⟩ := h
  refine ⟨fun v σ H Q => gTup G.K n g v σ H Q ∨ gLst G.K n g v σ H Q, fun X W k => ?_, fun σ H ρ ρ' S o c v d Q nt rs r e qq => ?_⟩
  · have t1 := pg_tup (pos := pos) (k := kk) (k.calm hcm) (p X W k) (hn _) (hst _)
    have t2 := pg_lst (pos := pos) (k := kk) (k.calm hcm) (p X W k) (hn _) (hst _)
    rw [k.K] at t1 t2
    exact pg_or t1 t2
  cases d with
  | tuple ds =>
    have e' : (if ds.length = n then bs ds ρ else none) = some ρ' := e
    by_cases hl : ds.length = n
    · rw [if_pos hl] at e'
      obtain ⟨a, vs, e1, h1, z1, ra⟩ := r.tupV
      exact .inl ⟨a, vs, e1, h1, by rw [ra.length]; exact hl, q σ H ρ ρ' S o c vs ds Q nt rs ra e' qq⟩
    · rw [if_neg hl] at e'; cases e'
  | list ds =>
    have e' : (if ds.length = n then bs ds ρ else none) = some ρ' := e
    by_cases hl : ds.length = n
    · rw [if_pos hl] at e'
      obtain ⟨a, vs, e1, h1, _, z1, ra⟩ := r.lstV
      exact .inr ⟨a, vs, e1, SqL.of h1, by rw [ra.length]; exact hl, q σ H ρ ρ' S o c vs ds Q nt rs ra e' qq⟩
    · rw [if_neg hl] at e'; cases e'
  | _ => cases e
end

/-! ### what is walked -/
def ItOk (vol : Ow → Prop) (K : PySem.W.Frag) (J : It) (o : Gh) (c : Cs) (H : Hp) (ds : List D) : Prop := ds.length ≤ sizeLine ∧ ∀ o1 c1 H1, Step vol o c H o1 c1 H1 → Trk o1 H1 → ∀ i, (ds.length ≤ i → J.stop i H1) ∧
  ∀ d, ds[i]? = some d → J.go i H1 ∧ ∀ x H2, J.yld i H1 x H2 → (∀ a u, H1 a = some u → H2 a = some u) ∧ Rep K o1 H2 x d
def PostI (vol : Ow → Prop) (G : Cc) (W : WX) (o : Gh) (c : Cs) (ρ : En) (σ : L2.St) (H : Hp) (r : R (List D)) (Q : It → Hp → Prop) : Prop := match r with
  | .ok ds S' => ∀ J o' c' H', Step isCell o c H o' c' H' → NT o' → RS G.K o' c' ρ S' σ H' → ItOk vol G.K J o' c' H' ds → Q J H'
  | .exc e S' => ∀ cls d o' c' H', Step isCell o c H o' c' H' → RS G.K o' c' ρ S' σ H' → NT o' → ExcR G.mg H' cls d e → W cls d σ H'
  | .bad => False
abbrev SI := En → Sto → R (List D)
def IR (vol : Ow → Prop) (G : Cc) (W : WX) (t : TI) (f : SI) : Prop := ∀ (σ : L2.St) (H : Hp) (ρ : En) (S : Sto) (o : Gh) (c : Cs) (Q : It → Hp → Prop), NT o → RS G.K o c ρ S σ H → PostI vol G W o c ρ σ H (f ρ S) Q → t σ H Q
def IV (vol : Ow → Prop) (G : Cc) (tg e : Expr) (f : SI) : Prop := ∃ t : WX → TI, (∀ X W, G.Ok X W → PI X tg e (t W)) ∧ ∀ W, IR vol G W (t W) f
/-- the items of a list or tuple -/
def seqD : D → Option (List D)
  | .list xs => some xs
  | .tuple xs => some xs
  | .str x => some (x.cps.toList.map fun c => .str ⟨#[c]⟩)
  | _ => none
def cSeq (f : SE) : SI := fun ρ S => match f ρ S with
  | .ok t S1 => (match (asD t).bind seqD with | some ds => .ok ds S1 | none => .bad)
  | .exc e S1 => .exc e S1
  | .bad => .bad
theorem pi_or {X : Cx} {tg e : Expr} {w w' : TI} (h : PI X tg e w) (h' : PI X tg e w') : PI X tg e (fun σ H R => w σ H R ∨ w' σ H R) := ⟨fun pins s σ H R I q => q.elim (h.run pins s σ H R I) (h'.run pins s σ H R I)⟩
section
variable {G : Cc} {W : WX} {pos : Pos} {e tg : Expr} {f : SE} {vol : Ow → Prop}
theorem SqT.stay {K : PySem.W.Frag} {o o1 : Gh} {c c1 : Cs} {H H1 : Hp} (tr : Trk o H) (s : Step vol o c H o1 c1 H1) {a : Addr} {vs : List V} (h : SqT K H a vs) : SqT K H1 a vs := BV.SqT.kept tr s.kept h
/-- a list or tuple that stands through the walk -/
theorem it_list {K : PySem.W.Frag} {o : Gh} {c : Cs} {H : Hp} {a : Addr} {vs : List V} {ds : List D} (tr : Trk o H) (h : H a = some (.lst vs)) (n : ∀ w, o a = some w → ¬ vol w) (z : vs.length ≤ sizeLine) (r : RepAll K o H vs ds) : ItOk vol K (Itl K a) o c H ds := by
  refine ⟨by rw [← r.length]; exact z, fun o1 c1 H1 s tr1 i => ?_⟩
  have h1 := s.keep a _ h n
  have r1 := r.step tr s
  refine ⟨fun hl => ⟨vs, .of h1, by rw [r.length]; exact hl⟩, fun d e => ?_⟩
  obtain ⟨v, e1, rv⟩ := r1.get e
  refine ⟨⟨vs, v, .of h1, e1⟩, fun x H2 y => ?_⟩
  obtain ⟨e2, y⟩ := y
  have e3 := y vs (.of h1)
  rw [e1] at e3
  cases e3
  subst e2
  exact ⟨fun _ _ q => q, rv⟩
theorem it_tup {K : PySem.W.Frag} {o : Gh} {c : Cs} {H : Hp} {a : Addr} {vs : List V} {ds : List D} (tr : Trk o H) (h : SqT K H a vs) (z : vs.length ≤ sizeLine) (r : RepAll K o H vs ds) : ItOk vol K (Itt K a) o c H ds := by
  refine ⟨by rw [← r.length]; exact z, fun o1 c1 H1 s tr1 i => ?_⟩
  have h1 := SqT.stay tr s h
  have r1 := r.step tr s
  refine ⟨fun hl => ⟨vs, h1, by rw [r.length]; exact hl⟩, fun d e => ?_⟩
  obtain ⟨v, e1, rv⟩ := r1.get e
  refine ⟨⟨vs, v, h1, e1⟩, fun x H2 y => ?_⟩
  obtain ⟨e2, y⟩ := y
  have e3 := y vs h1
  rw [e1] at e3
  cases e3
  subst e2
  exact ⟨fun _ _ q => q, rv⟩
/-- a text: its signs -/
theorem it_str {K : PySem.W.Frag} {o : Gh} {c : Cs} {H : Hp} {x : Str} (hx : PyData.strOk x = true) (hl : x.length ≤ sizeLine) : ItOk vol K (Its x) o c H (x.cps.toList.map fun c => .str ⟨#[c]⟩) := by
  have e0 : (x.cps.toList.map fun c => (PyData.str ⟨#[c]⟩)).length = x.cps.size := by rw [List.length_map]; simp
  refine ⟨by rw [e0]; exact hl, fun o1 c1 H1 s tr1 i => ⟨fun h => by rw [e0] at h; exact h, fun d e => ?_⟩⟩
  rw [List.getElem?_map] at e
  cases q : x.cps.toList[i]? with
  | none => rw [q] at e; cases e
  | some m =>
    rw [q] at e
    simp only [Option.map_some, Option.some.injEq] at e
    subst e
    have hi : i < x.cps.size := by have := (List.getElem?_eq_some_iff.mp q).1; simpa using this
    refine ⟨hi, fun y H2 yy => ?_⟩
    obtain ⟨e1, c', e2, e3⟩ := yy
    have : x.cps.toList[i]? = some c' := by rw [← e2]; simp
    rw [q] at this
    cases this
    subst e1 e3
    exact ⟨fun _ _ q => q, .str _ (strOk_one hx (List.mem_of_getElem? q)) one_line⟩
theorem iv_ev (h : EV G e f) : IV vol G tg e (cSeq f) := by
  obtain ⟨t, p, q⟩ := h
  refine ⟨fun W σ H R => (iList G.K (t W) σ H R ∨ iTup G.K (t W) σ H R) ∨ iStr (t W) σ H R, fun X W k => ?_, fun W σ H ρ S o c Q nt rs ps => ?_⟩
  · have := pi_or (pi_or (pi_list (tg := tg) (p X W k)) (pi_tup (p X W k))) (pi_str (p X W k))
    rw [k.K] at this
    exact this
  unfold cSeq at ps
  cases e : f ρ S with
  | bad => rw [e] at ps; exact ps.elim
  | exc e' S' =>
    rw [e] at ps
    refine .inl (.inl (q W σ H ρ S o c _ nt rs ?_))
    rw [e]; exact ps
  | ok t0 S' =>
    rw [e] at ps
    cases e1 : asD t0 with
    | none => simp only [e1, Option.bind_none] at ps; exact ps.elim
    | some d =>
      simp only [e1, Option.bind_some] at ps
      cases d with
      | list xs =>
        refine .inl (.inl (q W σ H ρ S o c _ nt rs ?_))
        rw [e]
        intro v o' c' H' s rs' r'
        have r2 := r'.toD rs'.cs.trk e1
        obtain ⟨a, vs, e2, h1, h2, h3, h4⟩ := r2.lstV
        exact ⟨a, e2, ⟨vs, .of h1⟩, ps _ (unT o') c' H' (s.untmp nt) unT_nt rs'.untmp (it_list rs'.untmp.cs.trk h1 (fun w hw => by rw [h2] at hw; cases hw) h3 h4)⟩
      | tuple xs =>
        refine .inl (.inr (q W σ H ρ S o c _ nt rs ?_))
        rw [e]
        intro v o' c' H' s rs' r'
        have r2 := r'.toD rs'.cs.trk e1
        obtain ⟨a, vs, e2, h1, h3, h4⟩ := r2.tupV
        exact ⟨a, e2, ⟨vs, h1⟩, ps _ (unT o') c' H' (s.untmp nt) unT_nt rs'.untmp (it_tup rs'.untmp.cs.trk h1 h3 h4)⟩
      | str x =>
        refine .inr (q W σ H ρ S o c _ nt rs ?_)
        rw [e]
        intro v o' c' H' s rs' r'
        have r2 := r'.toD rs'.cs.trk e1
        obtain ⟨e2, h1, h2⟩ := r2.strV
        exact ⟨x, e2, ps _ (unT o') c' H' (s.untmp nt) unT_nt rs'.untmp (it_str h1 h2)⟩
      | _ => exact ps.elim
/-- .. in an expression: a name's own list, too -/
theorem iv_uv (h : UV G e f) : IV isCell G tg e (cSeq f) := by
  obtain ⟨t, p, q⟩ := h
  refine ⟨fun W σ H R => (iList G.K (t W) σ H R ∨ iTup G.K (t W) σ H R) ∨ iStr (t W) σ H R, fun X W k => ?_, fun W σ H ρ S o c Q nt rs ps => ?_⟩
  · have := pi_or (pi_or (pi_list (tg := tg) (p X W k)) (pi_tup (p X W k))) (pi_str (p X W k))
    rw [k.K] at this
    exact this
  unfold cSeq at ps
  cases e : f ρ S with
  | bad => rw [e] at ps; exact ps.elim
  | exc e' S' =>
    rw [e] at ps
    refine .inl (.inl (q W σ H ρ S o c _ nt rs ?_))
    rw [e]; exact ps
  | ok t0 S' =>
    rw [e] at ps
    cases e1 : asD t0 with
    | none => simp only [e1, Option.bind_none] at ps; exact ps.elim
    | some d =>
      simp only [e1, Option.bind_some] at ps
      cases d with
      | list xs =>
        refine .inl (.inl (q W σ H ρ S o c _ nt rs ?_))
        rw [e]
        refine ⟨_, e1, fun v o' c' H' s nt' rs' r2 => ?_⟩
        obtain ⟨a, vs, e2, h1, h2, h3, h4⟩ := r2.lstV
        exact ⟨a, e2, ⟨vs, .of h1⟩, ps _ o' c' H' s nt' rs' (it_list rs'.cs.trk h1 h2 h3 h4)⟩
      | tuple xs =>
        refine .inl (.inr (q W σ H ρ S o c _ nt rs ?_))
        rw [e]
        refine ⟨_, e1, fun v o' c' H' s nt' rs' r2 => ?_⟩
        obtain ⟨a, vs, e2, h1, h3, h4⟩ := r2.tupV
        exact ⟨a, e2, ⟨vs, h1⟩, ps _ o' c' H' s nt' rs' (it_tup rs'.cs.trk h1 h3 h4)⟩
      | str x =>
        refine .inr (q W σ H ρ S o c _ nt rs ?_)
        rw [e]
        refine ⟨_, e1, fun v o' c' H' s nt' rs' r2 => ?_⟩
        obtain ⟨e2, h1, h2⟩ := r2.strV
        exact ⟨x, e2, ps _ o' c' H' s nt' rs' (it_str h1 h2)⟩
      | _ => exact ps.elim
end
end BV
/-! The by-value calculus: for, while, list comprehensions. -/
namespace BV
open PySem L2

/-! ### for -/
def forL (b : BT1) (body : SS) : List D → SS
  | [], ρ, S => .nx ρ S
  | d :: ds, ρ, S => match b d ρ with
    | none => .bad
    | some ρ1 => match body ρ1 S with
      | .nx ρ2 S2 => forL b body ds ρ2 S2
      | .ct ρ2 S2 => forL b body ds ρ2 S2
      | .bk ρ2 S2 => .nx ρ2 S2
      | x => x
def sFor (src : SI) (b : BT1) (body : SS) : SS := fun ρ S => match src ρ S with
  | .ok ds S1 => forL b body ds ρ S1
  | .exc e S1 => .ex e ρ S1
  | .bad => .bad
section
variable {G : Cc} {W : WX} {pos : Pos} {e tg : Expr} {vol : Ow → Prop}
theorem grow_step {o : Gh} {c : Cs} {H H2 : Hp} (h : ∀ a u, H a = some u → H2 a = some u) : Step vol o c H o c H2 := ⟨fun a u e _ => h a u e, fun _ _ e _ => e, fun _ e n => absurd e n, List.prefix_refl c⟩
theorem grow_cs {K : PySem.W.Frag} {o : Gh} {c : Cs} {S : Sto} {H H2 : Hp} (q : CS K o c S H) (h : ∀ a u, H a = some u → H2 a = some u) : CS K o c S H2 :=
  q.move (grow_step (vol := isCell) (c := c) h).kept (fun a n e => ⟨e, fun u hu => h a u hu⟩) fun a n => by
    obtain ⟨u, e, q⟩ := q.trk a n
    exact ⟨u, h a u e, q⟩
theorem grow_rs {K : PySem.W.Frag} {o : Gh} {c : Cs} {ρ : En} {S : Sto} {σ : L2.St} {H H2 : Hp} (r : RS K o c ρ S σ H) (h : ∀ a u, H a = some u → H2 a = some u) : RS K o c ρ S σ H2 := r.step (grow_step h) (grow_cs r.cs h)
theorem sv_for {L : List Nat} {iter : Expr} {body : List Stmt} {src : SI} {b : BT1} {g : SS} (hi : IV isVol G tg iter src) (hg : GV G tg L b) (hb : SVs G body g) (hcm : G.hot = none := by rfl) (hs : ∀ (env : PySem.Env) x, foldedSetIterable iter env x = pure x := by intro _ _; rfl) :
    SV G (.For tg iter body [] pos) (sFor src b g) := by
  obtain ⟨wi, pi, qi⟩ := hi
  obtain ⟨gg, pg, qg⟩ := hg
  obtain ⟨tb, pb, qb⟩ := hb
  refine ⟨fun W => tFor (wi W) gg (tb W), fun X W k => ps_for k.po (k.calm hcm) (pi X W k) (pg X W k) (pb X W k) (hs _), fun W σ H ρ S o c D nt rs ps => ?_⟩
  refine qi W σ H ρ S o c _ nt rs ?_
  unfold sFor at ps
  cases e : src ρ S with
  | bad => rw [e] at ps; exact ps.elim
  | exc e' S' =>
    rw [e] at ps
    exact fun cls d o' c' H' s rs' nt' x => ps cls d σ o' c' H' s.weak nt' rs' x
  | ok ds S1 =>
    rw [e] at ps
    intro J o1 c1 H1 s1 nt1 rs1 it
    have ps1 : PostS G W o1 c1 H1 (forL b g ds ρ S1) D := PostS.step s1.weak ps
    refine ⟨fun i m σ H => m = ds.length - i ∧ i ≤ ds.length ∧ ∃ ρ S o c, Step isVol o1 c1 H1 o c H ∧ NT o ∧ RS G.K o c ρ S σ H ∧ PostS G W o c H (forL b g (ds.drop i) ρ S) D,
      ⟨ds.length, by simp, Nat.zero_le _, ρ, S1, o1, c1, Step.refl, nt1, rs1, by rw [List.drop_zero]; exact ps1⟩, ?_⟩
    rintro i m σ2 H2 ⟨rfl, hi, ρ2, S2, o2, c2, s2, nt2, rs2, p2⟩
    obtain ⟨stop, go⟩ := it.2 o2 c2 H2 s2 rs2.cs.trk i
    by_cases hlt : i < ds.length
    · obtain ⟨gg1, gg2⟩ := go ds[i] (List.getElem?_eq_getElem hlt)
      rw [List.drop_eq_getElem_cons hlt] at p2
      refine .inr ⟨gg1, fun σ' H' => ∃ ρ S o c, Step isVol o1 c1 H1 o c H' ∧ NT o ∧ RS G.K o c ρ S σ' H' ∧ PostS G W o c H' (forL b g (ds.drop (i + 1)) ρ S) D, fun σ' H' q => ⟨ds.length - (i + 1), by omega, rfl, hlt, q⟩, fun x H3 y => ?_⟩
      obtain ⟨gr, rx⟩ := gg2 x H3 y
      have rs3 := grow_rs rs2 gr
      have s3 : Step isVol o2 c2 H2 o2 c2 H3 := grow_step gr
      have p3 := PostS.step s3 p2
      unfold forL at p3
      cases eb : b ds[i] ρ2 with
      | none => rw [eb] at p3; exact p3.elim
      | some ρ4 =>
        rw [eb] at p3
        refine qg σ2 H3 ρ2 ρ4 S2 o2 c2 x ds[i] _ nt2 rs3 rx eb fun σ4 rs4 _ _ => ?_
        have p4 := p3
        have sa : Step isVol o1 c1 H1 o2 c2 H3 := s2.trans s3
        refine qb W σ4 H3 ρ4 S2 o2 c2 _ nt2 rs4 ?_
        cases ef : g ρ4 S2 with
        | nx ρ5 S5 =>
          simp only [ef] at p4
          exact fun σ' o' c' H' s nt' rs' => ⟨ρ5, S5, o', c', sa.trans s, nt', rs', PostS.step s p4⟩
        | ct ρ5 S5 =>
          simp only [ef] at p4
          exact fun σ' o' c' H' s nt' rs' => ⟨ρ5, S5, o', c', sa.trans s, nt', rs', PostS.step s p4⟩
        | bk ρ5 S5 =>
          simp only [ef] at p4
          exact p4
        | rt t5 S5 =>
          simp only [ef] at p4
          exact p4
        | ex e5 ρ5 S5 =>
          simp only [ef] at p4
          exact p4
        | bad => simp only [ef] at p4; exact p4
    · have ei : i = ds.length := by omega
      subst ei
      rw [List.drop_length] at p2
      exact .inl ⟨stop (Nat.le_refl _), p2 σ2 o2 c2 H2 Step.refl nt2 rs2⟩

/-! ### while -/
def whileL (t : SB) (body : SS) : Nat → SS
  | 0, _, _ => .bad
  | n + 1, ρ, S => match t ρ S with
    | .ok true S1 => (match body ρ S1 with
      | .nx ρ2 S2 => whileL t body n ρ2 S2
      | .ct ρ2 S2 => whileL t body n ρ2 S2
      | .bk ρ2 S2 => .nx ρ2 S2
      | x => x)
    | .ok false S1 => .nx ρ S1
    | .exc e S1 => .ex e ρ S1
    | .bad => .bad
/-- at most so many turns are looked at -/
def turns : Nat := 1000000000
def sWhile (t : SB) (body : SS) : SS := whileL t body turns
theorem sv_while {cc : Expr} {body : List Stmt} {t : SB} {g : SS} (hc : TV G cc t) (hb : SVs G body g) : SV G (.While cc body [] pos) (sWhile t g) := by
  obtain ⟨tt, pt, qt⟩ := hc
  obtain ⟨tb, pb, qb⟩ := hb
  refine ⟨fun W => tWhile (tt W) (tb W), fun X W k => ps_while k.po (pt X W k) (pb X W k), fun W σ H ρ S o c D nt rs ps => ?_⟩
  refine ⟨fun m σ H => ∃ ρ S o c, NT o ∧ RS G.K o c ρ S σ H ∧ PostS G W o c H (whileL t g m ρ S) D, ⟨turns, ρ, S, o, c, nt, rs, ps⟩, ?_⟩
  rintro m σ1 H1 ⟨ρ1, S1, o1, c1, nt1, rs1, p1⟩
  cases m with
  | zero => exact p1.elim
  | succ m =>
    unfold whileL at p1
    refine qt W σ1 H1 ρ1 S1 o1 c1 _ nt1 rs1 ?_
    cases e : t ρ1 S1 with
    | bad => rw [e] at p1; exact p1.elim
    | exc e' S' =>
      rw [e] at p1
      exact fun cls d o' c' H' s rs' nt' x => p1 cls d σ1 o' c' H' s.weak nt' rs' x
    | ok b S2 =>
      rw [e] at p1
      intro o2 c2 H2 s2 nt2 rs2
      cases b with
      | false =>
        rw [if_neg Bool.false_ne_true]
        exact p1 σ1 o2 c2 H2 s2.weak nt2 rs2
      | true =>
        rw [if_pos rfl]
        refine ⟨fun σ' H' => ∃ ρ S o c, NT o ∧ RS G.K o c ρ S σ' H' ∧ PostS G W o c H' (whileL t g m ρ S) D, fun σ' H' q => ⟨m, Nat.lt_succ_self m, q⟩, ?_⟩
        have p2 := PostS.step s2.weak p1
        refine qb W σ1 H2 ρ1 S2 o2 c2 _ nt2 rs2 ?_
        cases ef : g ρ1 S2 with
        | nx ρ5 S5 =>
          simp only [ef] at p2
          exact fun σ' o' c' H' s nt' rs' => ⟨ρ5, S5, o', c', nt', rs', PostS.step s p2⟩
        | ct ρ5 S5 =>
          simp only [ef] at p2
          exact fun σ' o' c' H' s nt' rs' => ⟨ρ5, S5, o', c', nt', rs', PostS.step s p2⟩
        | bk ρ5 S5 => simp only [ef] at p2; exact p2
        | rt t5 S5 => simp only [ef] at p2; exact p2
        | ex e5 ρ5 S5 => simp only [ef] at p2; exact p2
        | bad => simp only [ef] at p2; exact p2

/-! ### list comprehensions -/
def wipeE (ρ : En) : List Nat → En
  | [] => ρ
  | v :: vs => (wipeE ρ vs).set v none
def lcM (b : BT1) (tt : SB) (elt : SE) (ρ : En) : List D → Sto → R (List D)
  | [], S => .ok [] S
  | d :: ds, S => match b d ρ with
    | none => .bad
    | some ρ1 => match tt ρ1 S with
      | .ok true S1 => (match elt ρ1 S1 with
        | .ok t S2 => (match asD t with
          | some x => R.l (lcM b tt elt ρ ds S2) fun xs S3 => .ok (x :: xs) S3
          | none => .bad)
        | _ => .bad)
      | .ok false S1 => lcM b tt elt ρ ds S1
      | _ => .bad
def cLc (src : SI) (b : BT1) (tt : SB) (elt : SE) (vs : List Nat) : SE := fun ρ S => R.l (src ρ S) fun ds S1 => R.l (lcM b tt elt (wipeE ρ vs) ds S1) fun xs S2 => .ok (.own xs) S2
/-- the clause's tests -/
def TVs (G : Cc) (ifs : List Expr) (f : SB) : Prop := ∃ t : WX → TT, (∀ X W, G.Ok X W → PTs X ifs (t W)) ∧ ∀ W, TR G W (t W) f
def bYes : SB := fun _ S => .ok true S
theorem tvs_nil : TVs G [] bYes := ⟨fun _ => tYes, fun _ _ _ => pts_nil, fun W σ H ρ S o c Q nt rs p => p o c H Step.refl nt rs⟩
theorem tvs_one {f : SB} (h : TV G e f) : TVs G [e] f := by
  obtain ⟨t, p, q⟩ := h
  exact ⟨t, fun X W k => pts_one (p X W k), q⟩
theorem takesN {cn : Bool} {X : Cx} : Tk cn X (fun _ _ _ _ => False) := Tk.no
theorem Cc.Ok.blk {X : Cx} (k : G.Ok X W) (hcm : G.hot = none) (scope : Scope) (s : Shared) (H : Hp) (C : Addr) (cl : List (Str × Addr)) (fp : List Addr) : (G.blk scope).Ok (X.blk s H scope (compEnvC scope cl C X.env) fp) (fun _ _ _ _ => False) :=
  ⟨k.P, k.w, k.K, k.mg, k.base, k.N, by show relS scope X.env.scope = relS scope G.sc; rw [k.sc], rfl, k.calm, k.room, takesN, PassesOwn.never, k.hd, fun h => (nomatch h), fun h e => (by rw [show (G.blk scope).hot = G.hot from rfl, hcm] at e; cases e), fun h => (nomatch h), fun _ _ h => (nomatch h)⟩
theorem RS.wipe {K : PySem.W.Frag} {o : Gh} {c : Cs} {ρ : En} {S : Sto} {σ : L2.St} {H : Hp} (rs : RS K o c ρ S σ H) : ∀ vs : List Nat, RS K o c (wipeE ρ vs) S (L2.wipe σ vs) H
  | [] => rs
  | v :: vs => by
    have ih := RS.wipe rs vs
    refine ⟨?_, fun j t' e => ?_, rs.cs⟩
    · show ((wipeE ρ vs).set v none).length = ((L2.wipe σ vs).set v none).length
      rw [List.length_set, List.length_set]
      exact ih.len
    · have e' : ((wipeE ρ vs).set v none)[j]? = some (some t') := e
      show ∃ v', ((L2.wipe σ vs).set v none)[j]? = some (some v') ∧ _
      by_cases q : j = v
      · subst q
        by_cases hl : j < (wipeE ρ vs).length
        · rw [List.getElem?_set_self hl] at e'; cases e'
        · rw [List.getElem?_eq_none (by rw [List.length_set]; omega)] at e'; cases e'
      · rw [List.getElem?_set_ne (Ne.symm q)] at e' ⊢
        exact ih.slot j t' e'
theorem wipe_get {σ : L2.St} : ∀ {vs : List Nat} {j : Nat}, j ∉ vs → (L2.wipe σ vs)[j]? = σ[j]?
  | [], _, _ => rfl
  | v :: vs, j, h => by
    simp only [List.mem_cons, not_or] at h
    show ((L2.wipe σ vs).set v none)[j]? = σ[j]?
    rw [List.getElem?_set_ne (Ne.symm h.1)]
    exact wipe_get h.2
theorem wipe_in {σ : L2.St} : ∀ {vs : List Nat} {j : Nat}, j ∈ vs → j < σ.length → (L2.wipe σ vs)[j]? = some none
  | v :: vs, j, h, hl => by
    show ((L2.wipe σ vs).set v none)[j]? = some none
    by_cases q : v = j
    · subst q
      rw [List.getElem?_set_self (by rw [wipe_length]; exact hl)]
    · rw [List.getElem?_set_ne q]
      rcases List.mem_cons.mp h with h | h
      · exact absurd h.symm q
      · exact wipe_in h hl
theorem wipe_eq {σ σ' : L2.St} {vs L : List Nat} (hL : ∀ j ∈ L, j ∈ vs) (hl : σ'.length = (L2.wipe σ vs).length) (h : ∀ (j : Nat), j ∉ L → σ'[j]? = (L2.wipe σ vs)[j]?) : L2.wipe σ' vs = L2.wipe σ vs := by
  apply List.ext_getElem?
  intro j
  rw [wipe_length] at hl
  by_cases hj : j ∈ vs
  · by_cases hb : j < σ.length
    · rw [wipe_in hj (by rw [hl]; exact hb), wipe_in hj hb]
    · rw [List.getElem?_eq_none (by rw [wipe_length]; omega), List.getElem?_eq_none (by rw [wipe_length]; omega)]
  · rw [wipe_get hj, h j fun z => hj (hL j z)]
/-- the list that a comprehension makes: written by nobody else -/
theorem write_kept {o : Gh} {H : Hp} {D : Addr} {u : HO} (h : o D ≠ none) : Kept o H o (upd H D u) := fun a x e n => ⟨by rw [upd_ne (fun z => h (by rw [← z]; exact n))]; exact e, n⟩
theorem write_cs {K : PySem.W.Frag} {o : Gh} {c : Cs} {S : Sto} {H : Hp} {D : Addr} {u : HO} (q : CS K o c S H) (h : o D = some .prot) (ou : Ownable u) : CS K o c S (upd H D u) :=
  q.move (write_kept (by rw [h]; simp)) (fun a n e => ⟨e, fun x hx => by rw [upd_ne (fun z => by rw [z, h] at e; cases e)]; exact hx⟩) fun a n => by
    by_cases z : a = D
    · subst z; exact ⟨u, upd_same, ou⟩
    · obtain ⟨x, e, q⟩ := q.trk a n
      exact ⟨x, by rw [upd_ne z]; exact e, q⟩
/-- back from the block: the new list becomes temporary -/
def tmpAt (o : Gh) (D : Addr) : Gh := mkO o D .tmp
theorem er_lc {L vs : List Nat} {src : SI} {b : BT1} {tt : SB} {elt : SE} {wi : TI} {g : TG} {tT : TT} {tE : TE} {scope : Scope} (hi : IR isCell G W wi src) (hg : GR G.K L g b) (hL : ∀ j ∈ L, j ∈ vs)
    (ht : TR (G.blk scope) (fun _ _ _ _ => False) tT tt) (he : ER (G.blk scope) (fun _ _ _ _ => False) tE elt) : ER G W (tLc wi g tT tE vs) (cLc src b tt elt vs) := by
  intro σ H ρ S o c Q nt rs ps
  refine hi σ H ρ S o c _ nt rs ?_
  unfold cLc at ps
  cases e : src ρ S with
  | bad => rw [e] at ps; exact ps.elim
  | exc e' S' => rw [e] at ps; exact ps
  | ok ds S1 =>
    rw [e] at ps
    intro J o1 c1 H1 s1 nt1 rs1 it D hD
    have ps1 : PostE G W o1 c1 ρ σ H1 (R.l (lcM b tt elt (wipeE ρ vs) ds S1) fun xs S2 => .ok (.own xs) S2) Q := PostE.step s1 ps
    refine ⟨fun i m H => m = ds.length - i ∧ i ≤ ds.length ∧ ∃ S o c acc ys, Step isCell o1 c1 H1 o c H ∧ NT o ∧ o D = some .prot ∧ CS G.K o c S H ∧ H D = some (.lst acc) ∧ RepAll G.K o H acc ys ∧ acc.length ≤ i ∧
      PostE G W o1 c1 ρ σ H1 (R.l (lcM b tt elt (wipeE ρ vs) (ds.drop i) S) fun xs S2 => .ok (.own (ys ++ xs)) S2) Q,
      ⟨ds.length, by simp, Nat.zero_le _, S1, mkO o1 D .prot, c1, [], [], Step.laidO rs1.cs.trk hD, ?_, mkO_same, rs1.cs.laidO hD trivial, upd_same, .nil, Nat.le_refl _, by rw [List.drop_zero]; exact ps1⟩, ?_⟩
    · intro a z
      by_cases q : a = D
      · subst q; rw [mkO_same] at z; cases z
      · rw [mkO_ne q] at z; exact nt1 a z
    rintro i m H2 ⟨rfl, hi2, S2, o2, c2, acc, ys, s2, nt2, hp2, cs2, hD2, ra2, la2, p2⟩
    obtain ⟨stop, go⟩ := it.2 o2 c2 H2 s2 cs2.trk i
    by_cases hlt : i < ds.length
    · obtain ⟨gg1, gg2⟩ := go ds[i] (List.getElem?_eq_getElem hlt)
      rw [List.drop_eq_getElem_cons hlt] at p2
      refine .inr ⟨gg1, fun H => ∃ S o c acc ys, Step isCell o1 c1 H1 o c H ∧ NT o ∧ o D = some .prot ∧ CS G.K o c S H ∧ H D = some (.lst acc) ∧ RepAll G.K o H acc ys ∧ acc.length ≤ i + 1 ∧
        PostE G W o1 c1 ρ σ H1 (R.l (lcM b tt elt (wipeE ρ vs) (ds.drop (i + 1)) S) fun xs S2 => .ok (.own (ys ++ xs)) S2) Q, fun H' q => ⟨ds.length - (i + 1), by omega, rfl, hlt, q⟩, fun x H3 y => ?_⟩
      obtain ⟨gr, rx⟩ := gg2 x H3 y
      have cs3 := grow_cs cs2 gr
      have s3 : Step isCell o2 c2 H2 o2 c2 H3 := grow_step gr
      -- the block's names
      have rsw : RS G.K o2 c2 (wipeE ρ vs) S2 (L2.wipe σ vs) H3 := ((rs1.step (s2.trans s3) cs3)).wipe vs
      unfold lcM at p2
      cases eb : b ds[i] (wipeE ρ vs) with
      | none => rw [eb] at p2; exact p2.elim
      | some ρ4 =>
        rw [eb] at p2
        refine hg (L2.wipe σ vs) H3 (wipeE ρ vs) ρ4 S2 o2 c2 x ds[i] _ nt2 rsw rx eb fun σ4 rs4 f4 l4 => ?_
        refine ⟨wipe_eq hL l4 f4, ?_⟩
        refine ht σ4 H3 ρ4 S2 o2 c2 _ nt2 rs4 ?_
        have hD3 : H3 D = some (.lst acc) := gr _ _ hD2
        have np : ∀ w, o2 D = some w → ¬ isCell w := fun w hw => by rw [hp2] at hw; cases hw; exact fun z => z
        cases et : tt ρ4 S2 with
        | bad => simp only [et] at p2; exact p2.elim
        | exc e' S' => simp only [et] at p2; exact p2.elim
        | ok bb S3 =>
          simp only [et] at p2
          intro o5 c5 H5 s5 nt5 rs5
          have hp5 : o5 D = some .prot := s5.own D _ hp2 (fun z => z)
          have hD5 : H5 D = some (.lst acc) := s5.keep D _ hD3 np
          have sa : Step isCell o1 c1 H1 o5 c5 H5 := (s2.trans s3).trans s5
          have ra5 : RepAll G.K o5 H5 acc ys := (ra2.step cs2.trk s3).step cs3.trk s5
          cases bb with
          | false =>
            rw [if_neg Bool.false_ne_true]
            exact ⟨S3, o5, c5, acc, ys, sa, nt5, hp5, rs5.cs, hD5, ra5, Nat.le_succ_of_le la2, p2⟩
          | true =>
            rw [if_pos rfl]
            refine he σ4 H5 ρ4 S3 o5 c5 _ nt5 rs5 ?_
            cases ee : elt ρ4 S3 with
            | bad => simp only [ee] at p2; exact p2.elim
            | exc e' S' => simp only [ee] at p2; exact p2.elim
            | ok t S4 =>
              simp only [ee] at p2
              intro v o6 c6 H6 s6 rs6 r6
              cases ea : asD t with
              | none => simp only [ea] at p2; exact p2.elim
              | some xd =>
                simp only [ea] at p2
                have np5 : ∀ w, o5 D = some w → ¬ isCell w := fun w hw => by rw [hp5] at hw; cases hw; exact fun z => z
                have s7 := s6.untmp nt5
                have hp7 : unT o6 D = some .prot := s7.own D _ hp5 (fun z => z)
                have hD7 : H6 D = some (.lst acc) := s7.keep D _ hD5 np5
                have cs7 := rs6.untmp.cs
                have ra7 := ra5.step rs5.cs.trk s7
                have rx7 : Rep G.K (unT o6) H6 v xd := r6.toD rs6.cs.trk ea
                have hlen : acc.length < sizeLine := Nat.lt_of_le_of_lt la2 (Nat.lt_of_lt_of_le hlt it.1)
                have kw : Kept (unT o6) H6 (unT o6) (upd H6 D (.lst (acc ++ [v]))) := write_kept (by rw [hp7]; simp)
                refine ⟨acc, hD7, hlen, S4, unT o6, c6, acc ++ [v], ys ++ [xd], ⟨fun a u e n => ?_, (sa.trans s7).own, (sa.trans s7).new, (sa.trans s7).pre⟩, unT_nt, hp7, write_cs cs7 hp7 trivial, upd_same, ?_, ?_, ?_⟩
                · rw [upd_ne (ne_of_none e hD)]
                  exact (sa.trans s7).keep a u e n
                · exact (ra7.kept cs7.trk kw).append (.cons _ _ _ _ (rx7.kept cs7.trk kw) .nil)
                · rw [List.length_append]
                  exact Nat.succ_le_succ la2
                · cases el : lcM b tt elt (wipeE ρ vs) (ds.drop (i + 1)) S4 with
                  | bad => rw [el] at p2; exact p2
                  | exc e' S' => rw [el] at p2; exact p2
                  | ok xs S5 =>
                    rw [el] at p2
                    have p8 : PostE G W o1 c1 ρ σ H1 (.ok (.own (ys ++ (xd :: xs))) S5) Q := p2
                    show PostE G W o1 c1 ρ σ H1 (.ok (.own ((ys ++ [xd]) ++ xs)) S5) Q
                    rw [List.append_assoc]
                    exact p8
    · have ei : i = ds.length := by omega
      subst ei
      rw [List.drop_length] at p2
      refine .inl ⟨stop (Nat.le_refl _), ?_⟩
      have p3 : PostE G W o1 c1 ρ σ H1 (.ok (.own ys) S2) Q := by
        have : PostE G W o1 c1 ρ σ H1 (.ok (.own (ys ++ [])) S2) Q := p2
        rw [List.append_nil] at this
        exact this
      have n1 : o1 D = none := rs1.cs.trk.new hD
      have st : Step isCell o1 c1 H1 (tmpAt o2 D) c2 H2 := ⟨s2.keep, fun a w e n => by
          have : a ≠ D := fun z => by rw [z, n1] at e; cases e
          unfold tmpAt
          rw [mkO_ne this]
          exact s2.own a w e n, fun a e n => by
          by_cases z : a = D
          · rw [z]; exact hD
          · unfold tmpAt at n
            rw [mkO_ne z] at n
            exact s2.new a e n, s2.pre⟩
      have sup : ∀ a, o2 a = none → tmpAt o2 D a = none := fun a e => by
        have : a ≠ D := fun z => by rw [z, hp2] at e; cases e
        unfold tmpAt
        rw [mkO_ne this]
        exact e
      have cst : CS G.K (tmpAt o2 D) c2 S2 H2 := cs2.turn sup (fun a n e => by
        have : a ≠ D := fun z => by rw [z, hp2] at e; cases e
        unfold tmpAt
        rw [mkO_ne this]
        exact e) fun a n e => n (sup a e)
      exact p3 (.ref D) (tmpAt o2 D) c2 H2 st (rs1.step st cst) ⟨D, acc, rfl, mkO_same, hD2, Nat.le_trans la2 it.1, ra2.kept cs2.trk (Kept.same sup)⟩
theorem ev_lc {L : List Nat} {iter elt : Expr} {ifs : List Expr} {scope : Scope} {own : List (Str × Nat)} {src : SI} {b : BT1} {tt : SB} {fe : SE} (hi : IV isCell G tg iter src) (hg : GV (G.blk scope) tg L b) (ht : TVs (G.blk scope) ifs tt) (he : EV (G.blk scope) elt fe)
    (hcm : G.hot = none := by rfl) (hb : blkC G.N G.sc scope own = true := by (try dsimp only [Cc.blk]); decide +kernel) (hL : ∀ j ∈ L, j ∈ own.map (·.2) := by decide) (nd : G.N.Nodup := by (try dsimp only [Cc.blk]); decide +kernel) (hs : ∀ (env : PySem.Env) x, foldedSetIterable iter env x = pure x := by intro _ _; rfl) :
    EV G (.ListComp elt [⟨tg, iter, ifs, 0⟩] scope pos) (cLc src b tt fe (own.map (·.2))) := by
  obtain ⟨wi, pi, qi⟩ := hi
  obtain ⟨gg, pg, qg⟩ := hg
  obtain ⟨tT, pt, qt⟩ := ht
  obtain ⟨tE, pe, qe⟩ := he
  refine ⟨fun W => tLc (wi W) gg (tT fun _ _ _ _ => False) (tE fun _ _ _ _ => False) (own.map (·.2)), fun X W k => ?_, fun W => er_lc (qi W) qg hL (qt _) (qe _)⟩
  exact pe_lc (k.calm hcm) (k.nd nd) (pi X W k) (blkOk_by (by rw [k.N, k.sc]; exact hb)) (fun s H C cl fp => pg _ _ (k.blk hcm scope s H C cl fp)) (fun s H C cl fp => pt _ _ (k.blk hcm scope s H C cl fp)) (fun s H C cl fp => pe _ _ (k.blk hcm scope s H C cl fp)) (hs _)
/-- name = [..]: on one line, the name a local -/
theorem sv_asgLc (i : Nat) {x : Str} {py : Pos} {spos : Pos} {L : List Nat} {iter elt : Expr} {ifs : List Expr} {scope : Scope} {own : List (Str × Nat)} {src : SI} {b : BT1} {tt : SB} {fe : SE} (hi : IV isCell G tg iter src) (hg : GV (G.blk scope) tg L b) (ht : TVs (G.blk scope) ifs tt) (he : EV (G.blk scope) elt fe)
    (hN : G.N[i]? = some x := by rfl) (hx : G.sc.names.lookup x = some .local := by rfl) (hk : G.sc.kind = .function := by rfl) (hl : (py.line == pos.line) = true := by rfl)
    (ha : (scope.names.any fun (n, k) => n == x && (k == .local || k == .cell)) = false := by decide +kernel)
    (hcm : G.hot = none := by rfl) (hb : blkC G.N G.sc scope own = true := by (try dsimp only [Cc.blk]); decide +kernel) (hL : ∀ j ∈ L, j ∈ own.map (·.2) := by decide) (nd : G.N.Nodup := by (try dsimp only [Cc.blk]); decide +kernel) (hs : ∀ (env : PySem.Env) x, foldedSetIterable iter env x = pure x := by intro _ _; rfl) :
    SV G (.Assign [.Name x py] (.ListComp elt [⟨tg, iter, ifs, 0⟩] scope pos) spos) (sAsg i (cLc src b tt fe (own.map (·.2)))) := by
  obtain ⟨wi, pi, qi⟩ := hi
  obtain ⟨gg, pg, qg⟩ := hg
  obtain ⟨tT, pt, qt⟩ := ht
  obtain ⟨tE, pe, qe⟩ := he
  refine ⟨fun W => tAsg (tLc (wi W) gg (tT fun _ _ _ _ => False) (tE fun _ _ _ _ => False) (own.map (·.2))) (gName i), fun X W k => ?_, fun W σ H ρ S o c D nt rs ps => ?_⟩
  · exact ps_setLc (k.calm hcm) (k.nd nd) (k.at hN) (by rw [k.sc]; exact hx) (sw_true (by rw [k.sc]; exact hk) (by rw [k.sc]; exact hx) hl ha) (pi X W k) (blkOk_by (by rw [k.N, k.sc]; exact hb)) (fun s H C cl fp => pg _ _ (k.blk hcm scope s H C cl fp)) (fun s H C cl fp => pt _ _ (k.blk hcm scope s H C cl fp)) (fun s H C cl fp => pe _ _ (k.blk hcm scope s H C cl fp)) (hs _)
  · exact (er_lc (qi W) qg hL (qt _) (qe _)).s nt rs ps fun t S1 v o1 c1 H1 s1 rs1 r1 p1 => p1 _ (reT i o1) c1 H1 Step.refl.re reT_nt (rs1.put r1)
end
end BV
/-! The by-value calculus: ranges, lists changed in place, items stored, isinstance. -/
namespace BV
open PySem L2

/-! ### ranges -/
def rangeL (lo : Int) (n : Nat) : List D := (List.range n).map fun (k : Nat) => .int (lo + (k : Int))
def gRng1 : List D → Option (List D)
  | [.int j] => if j.toNat ≤ sizeLine ∧ smallI j = true then some (rangeL 0 j.toNat) else none
  | _ => none
def gRng2 : List D → Option (List D)
  | [.int i, .int j] => if (j - i).toNat ≤ sizeLine ∧ smallI i = true ∧ smallI j = true then some (rangeL i (j - i).toNat) else none
  | _ => none
def gRng3 : List D → Option (List D)
  | [.int i, .int j, .int c] => if c = -1 ∧ (i - j).toNat ≤ sizeLine ∧ smallI i = true ∧ smallI j = true then some ((List.range (i - j).toNat).map fun (k : Nat) => .int (i - (k : Int))) else none
  | _ => none
def cRng (g : List D → Option (List D)) (fs : SU) : SI := fun ρ S => R.l (fs ρ S) fun ds S1 => match g ds with | some xs => .ok xs S1 | none => .bad
theorem sz62 {j : Int} (h : j.toNat ≤ sizeLine) : j < 2 ^ 62 := by
  rw [sizeLine_eq] at h
  omega
theorem it_range {vol : Ow → Prop} {K : PySem.W.Frag} {o : Gh} {c : Cs} {H : Hp} {lo : Int} {n : Nat} (hn : n ≤ sizeLine) : ItOk vol K (Itr lo n) o c H (rangeL lo n) := by
  have hl : (rangeL lo n).length = n := by unfold rangeL; rw [List.length_map, List.length_range]
  refine ⟨by rw [hl]; exact hn, fun o1 c1 H1 s tr i => ⟨fun h => by rw [hl] at h; exact h, fun d e => ?_⟩⟩
  have hi : i < n := by
    have := (List.getElem?_eq_some_iff.mp e).1
    rw [hl] at this
    exact this
  have ed : d = .int (lo + (i : Int)) := by
    unfold rangeL at e
    rw [List.getElem?_map, List.getElem?_range hi] at e
    simpa using e.symm
  subst ed
  refine ⟨hi, fun x H2 y => ?_⟩
  obtain ⟨e1, e2⟩ := y
  subst e1 e2
  exact ⟨fun _ _ q => q, .int _⟩
theorem it_rangeD {vol : Ow → Prop} {K : PySem.W.Frag} {o : Gh} {c : Cs} {H : Hp} {lo : Int} {n : Nat} (hn : n ≤ sizeLine) : ItOk vol K (Itc lo (-1) n) o c H ((List.range n).map fun (k : Nat) => .int (lo - (k : Int))) := by
  have hl : ((List.range n).map fun (k : Nat) => (PyData.int (lo - (k : Int)))).length = n := by rw [List.length_map, List.length_range]
  refine ⟨by rw [hl]; exact hn, fun o1 c1 H1 s tr i => ⟨fun h => by rw [hl] at h; exact h, fun d e => ?_⟩⟩
  have hi : i < n := by
    have := (List.getElem?_eq_some_iff.mp e).1
    rw [hl] at this
    exact this
  have ed : d = .int (lo - (i : Int)) := by
    rw [List.getElem?_map, List.getElem?_range hi] at e
    simpa using e.symm
  subst ed
  refine ⟨hi, fun x H2 y => ?_⟩
  obtain ⟨e1, e2⟩ := y
  subst e1
  refine ⟨fun _ _ q => q, ?_⟩
  rw [e2, show lo + (i : Int) * (-1) = lo - (i : Int) by omega]
  exact .int _
section
variable {G : Cc} {W : WX} {o o1 : Gh} {c c1 : Cs} {ρ : En} {σ : L2.St} {H H1 : Hp} {pos p : Pos} {a b e tg e1 e2 e3 : Expr} {f f1 f2 f3 : SE} {vol : Ow → Prop} {fs : SU} {Dn : Ends}
/-- what is walked of some arguments -/
theorem UAR.i {t : TA} {k : List BV.D → Option (List BV.D)} {S : Sto} {Q : It → Hp → Prop} {QQ : List V → Hp → Prop} (h : UAR G W t fs) (nt : NT o) (rs : RS G.K o c ρ S σ H) (ps : PostI vol G W o c ρ σ H (R.l (fs ρ S) fun ds S1 => match k ds with | some xs => .ok xs S1 | none => .bad) Q)
    (q : ∀ ds xs S1 vs o1 c1 H1, Step isCell o c H o1 c1 H1 → NT o1 → RS G.K o1 c1 ρ S1 σ H1 → RepUs G.K o1 H1 vs ds → k ds = some xs → PostI vol G W o1 c1 ρ σ H1 (.ok xs S1) Q → QQ vs H1) : t σ H QQ := by
  refine h σ H ρ S o c QQ nt rs ?_
  cases e : fs ρ S with
  | bad => rw [e] at ps; exact ps.elim
  | exc e' S' => rw [e] at ps; exact ps
  | ok ds S1 =>
    rw [e] at ps
    intro vs o1 c1 H1 s1 nt1 rs1 r1
    cases ek : k ds with
    | none => simp only [R.l_ok, ek] at ps; exact ps.elim
    | some xs =>
      simp only [R.l_ok, ek] at ps
      exact q ds xs S1 vs o1 c1 H1 s1 nt1 rs1 r1 ek fun J o' c' H' s => ps J o' c' H' (s1.trans s)
theorem iv_range1 (ha : UAV G [e1] fs) (hm : G.mg "range" = none) (hg : G.sc.names.lookup ("range" : Str) = some .globalImplicit := by rfl) (hs : ∀ env : PySem.Env, starEach [e1] env = [(false, eval e1 env)] := by intro _; rfl) : IV vol G tg (.Call (.Name "range" p) [e1] [] pos) (cRng gRng1 fs) := by
  obtain ⟨t, pp, q⟩ := ha
  refine ⟨fun W => iRng1 (t W), fun X W k => pi_range1 (k.gl hg) (k.m hm) (pp X W k) (hs _), fun W σ H ρ S o c Q nt rs ps => ?_⟩
  refine (q W).i nt rs ps fun ds xs S1 vs o1 c1 H1 s1 nt1 rs1 r1 ek p1 => ?_
  unfold gRng1 at ek
  split at ek
  · split at ek
    · cases ek
      rename_i hh
      obtain ⟨v, rfl, r⟩ := r1.one
      rw [r.intV]
      exact ⟨_, rfl, smallI_lo hh.2, sz62 hh.1, p1 _ o1 c1 H1 Step.refl nt1 rs1 (it_range hh.1)⟩
    · cases ek
  · cases ek
theorem iv_range2 (ha : UAV G [e1, e2] fs) (hm : G.mg "range" = none) (hg : G.sc.names.lookup ("range" : Str) = some .globalImplicit := by rfl) (hs : ∀ env : PySem.Env, starEach [e1, e2] env = [(false, eval e1 env), (false, eval e2 env)] := by intro _; rfl)
    (hs2 : ∀ env : PySem.Env, starEach [e2] env = [(false, eval e2 env)] := by intro _; rfl) : IV vol G tg (.Call (.Name "range" p) [e1, e2] [] pos) (cRng gRng2 fs) := by
  obtain ⟨t, pp, q⟩ := ha
  refine ⟨fun W => iRng2 (t W), fun X W k => pi_range2 (k.gl hg) (k.m hm) (pp X W k) (hs _) (hs2 _), fun W σ H ρ S o c Q nt rs ps => ?_⟩
  refine (q W).i nt rs ps fun ds xs S1 vs o1 c1 H1 s1 nt1 rs1 r1 ek p1 => ?_
  unfold gRng2 at ek
  split at ek
  · split at ek
    · cases ek
      rename_i hh
      obtain ⟨v, w, rfl, r, r'⟩ := r1.two
      rw [r.intV, r'.intV]
      exact ⟨_, _, rfl, ⟨smallI_lo hh.2.1, smallI_hi hh.2.1, smallI_lo hh.2.2, smallI_hi hh.2.2⟩, p1 _ o1 c1 H1 Step.refl nt1 rs1 (it_range hh.1)⟩
    · cases ek
  · cases ek
theorem RepUs.three {K : PySem.W.Frag} {o : Gh} {H : Hp} {vs : List V} {d e f : BV.D} (r : RepUs K o H vs [d, e, f]) : ∃ v w u, vs = [v, w, u] ∧ RepU K o H v d ∧ RepU K o H w e ∧ RepU K o H u f := by
  obtain ⟨v, ws, e1, r1, r2⟩ := r.consV
  obtain ⟨w, u, e2, r3, r4⟩ := r2.two
  exact ⟨v, w, u, by rw [e1, e2], r1, r3, r4⟩
theorem iv_range3 (ha : UAV G [e1, e2, e3] fs) (hm : G.mg "range" = none) (hg : G.sc.names.lookup ("range" : Str) = some .globalImplicit := by rfl) (hs : ∀ env : PySem.Env, starEach [e1, e2, e3] env = (false, eval e1 env) :: starEach [e2, e3] env := by intro _; rfl)
    (hpl : ∀ env : PySem.Env, (backTo pos (starEach [e2, e3] env)).any (·.1) = false := by intro _; rfl) : IV vol G tg (.Call (.Name "range" p) [e1, e2, e3] [] pos) (cRng gRng3 fs) := by
  obtain ⟨t, pp, q⟩ := ha
  refine ⟨fun W => iRng3 (t W), fun X W k => pi_range3 (k.gl hg) (k.m hm) (pp X W k) (hs _) (hpl _), fun W σ H ρ S o c Q nt rs ps => ?_⟩
  refine (q W).i nt rs ps fun ds xs S1 vs o1 c1 H1 s1 nt1 rs1 r1 ek p1 => ?_
  unfold gRng3 at ek
  split at ek
  · split at ek
    · cases ek
      rename_i hh
      obtain ⟨hc, hh⟩ := hh
      subst hc
      obtain ⟨v, w, u, rfl, r, r', r''⟩ := r1.three
      rw [r.intV, r'.intV, r''.intV]
      exact ⟨_, _, -1, _, rfl, RgC.neg (smallI_lo hh.2.1) (smallI_hi hh.2.1) (smallI_lo hh.2.2) (smallI_hi hh.2.2), p1 _ o1 c1 H1 Step.refl nt1 rs1 (it_rangeD hh.1)⟩
    · cases ek
  · cases ek

/-! ### a name's own list is changed -/
theorem write_ck {K : PySem.W.Frag} {o : Gh} {c : Cs} {S : Sto} {H : Hp} {a : Addr} {u : HO} {i : Nat} (q : CS K o c S H) (h : o a = some (.slot i)) (ou : Ownable u) : CS K o c S (upd H a u) :=
  q.move (write_kept (by rw [h]; simp)) (fun b n e => ⟨e, fun x hx => by rw [upd_ne (fun z => by rw [z, h] at e; cases e)]; exact hx⟩) fun b n => by
    by_cases z : b = a
    · subst z; exact ⟨u, upd_same, ou⟩
    · obtain ⟨x, e, q⟩ := q.trk b n
      exact ⟨x, by rw [upd_ne z]; exact e, q⟩
theorem write_step {o : Gh} {c : Cs} {H : Hp} {a : Addr} {u : HO} {i : Nat} (h : o a = some (.slot i)) : Step isVol o c H o c (upd H a u) :=
  ⟨fun b x e n => by rw [upd_ne (fun z => n (.slot i) (by rw [z]; exact h) trivial)]; exact e, fun _ _ e _ => e, fun _ e n => absurd e n, List.prefix_refl c⟩
/-- a value of other owners stays -/
theorem RepT.write {K : PySem.W.Frag} {u : HO} {a : Addr} {i : Nat} {w : Ow} {v : V} {t : T} (tr : Trk o H) (h : o a = some (.slot i)) (hw : w ≠ .slot i) (r : RepT K o c H w v t) : RepT K o c (upd H a u) w v t := by
  have k : Kept o H o (upd H a u) := write_kept (by rw [h]; simp)
  have ne : ∀ b, o b = some w → b ≠ a := fun b e z => by rw [z, h] at e; cases e; exact hw rfl
  cases t with
  | val d => exact Rep.kept tr k r
  | own xs =>
    obtain ⟨x, vs, e, q, h', z, ra⟩ := r
    exact ⟨x, vs, e, q, by rw [upd_ne (ne _ q)]; exact h', z, ra.kept tr k⟩
  | own2 xss =>
    obtain ⟨x, as, e, q, h', nd, z, le, f⟩ := r
    refine ⟨x, as, e, q, by rw [upd_ne (ne _ q)]; exact h', nd, z, le, fun i b xs e1 e2 => ?_⟩
    obtain ⟨q', vs, h'', z', ra⟩ := f i b xs e1 e2
    exact ⟨q', vs, by rw [upd_ne (ne _ q')]; exact h'', z', ra.kept tr k⟩
  | ownd tk kvs =>
    obtain ⟨x, ks, vs, ds, e, q, h', z, z2, ra, e'⟩ := r
    exact ⟨x, ks, vs, ds, e, q, h'.kept (fun u hu => by rw [upd_ne (ne _ q)]; exact hu) (fun b us zz => SqT.kept tr k zz), z, z2, ra.kept tr k, e'⟩
  | cel n => exact r
  | scr ns =>
    obtain ⟨x, e, z, h'⟩ := r
    refine ⟨x, e, z, ?_⟩
    rcases h' with ⟨ob, h'⟩ | ⟨h', n⟩ | h'
    · exact .inl ⟨ob, by rw [upd_ne (fun z => by rw [z] at h'; have := tr.free h' (fun z => z); rw [h] at this; cases this)]; exact h'⟩
    · exact .inr (.inl ⟨by rw [upd_ne (fun z => by rw [z, h] at n; cases n)]; exact h', n⟩)
    · exact .inr (.inr h')
  | exn _ _ _ _ => exact ⟨r.1, r.2.1, r.2.2.kept tr k⟩
  | tree d =>
    obtain ⟨as, r, nd⟩ := r
    exact ⟨as, r.move (fun x u e q => ⟨by rw [upd_ne (ne _ q)]; exact e, q⟩) (fun b us z => SqT.kept tr k z), nd⟩
/-- slot i's value is changed, its objects with it -/
theorem RS.change {K : PySem.W.Frag} {S : Sto} {u : HO} {a : Addr} {i : Nat} {t : T} {v : V} (rs : RS K o c ρ S σ H) (h : o a = some (.slot i)) (ou : Ownable u) (hv : σ[i]? = some (some v)) (r : RepT K o c (upd H a u) (.slot i) v t) :
    RS K o c (ρ.set i (some t)) S σ (upd H a u) :=
  ⟨by rw [List.length_set]; exact rs.len, fun j t' e => by
    by_cases q : j = i
    · subst q
      have hl : j < ρ.length := by rw [rs.len]; exact (List.getElem?_eq_some_iff.mp hv).1
      rw [List.getElem?_set_self hl] at e
      simp only [Option.some.injEq] at e
      subst e
      exact ⟨v, hv, r⟩
    · rw [List.getElem?_set_ne (Ne.symm q)] at e
      obtain ⟨v', e1, r'⟩ := rs.slot j t' e
      exact ⟨v', e1, r'.write rs.cs.trk h (fun z => q (by cases z; rfl))⟩, write_ck rs.cs h ou⟩
theorem RS.ownAt {K : PySem.W.Frag} {S : Sto} {i : Nat} {xs : List BV.D} (rs : RS K o c ρ S σ H) (e : ρ[i]? = some (some (.own xs))) : ∃ a vs, σ[i]? = some (some (.ref a)) ∧ o a = some (.slot i) ∧ H a = some (.lst vs) ∧ vs.length ≤ sizeLine ∧ RepAll K o H vs xs := by
  obtain ⟨v, e1, a, vs, rfl, h1, h2, h3, h4⟩ := rs.slot i _ e
  exact ⟨a, vs, e1, h1, h2, h3, h4⟩
/-- .. to another list -/
theorem RS.relist {K : PySem.W.Frag} {S : Sto} {a : Addr} {i : Nat} {vs : List V} {xs : List BV.D} (rs : RS K o c ρ S σ H) (h : o a = some (.slot i)) (hv : σ[i]? = some (some (.ref a))) (z : vs.length ≤ sizeLine) (r : RepAll K o H vs xs) :
    RS K o c (ρ.set i (some (.own xs))) S σ (upd H a (.lst vs)) :=
  rs.change h trivial hv ⟨a, vs, rfl, h, upd_same, z, r.kept rs.cs.trk (write_kept (by rw [h]; simp))⟩
/-- behind arguments, in a statement -/
def sA {α : Type} (f : En → Sto → R α) (k : α → En → Sto → Fl) : SS := fun ρ S => match f ρ S with
  | .ok t S1 => k t ρ S1
  | .exc e S1 => .ex e ρ S1
  | .bad => .bad
theorem AR.s {t : TA} {fa : SA} {k : List T → En → Sto → Fl} {S : Sto} {Q : List V → Hp → Prop} (h : AR G W t fa) (nt : NT o) (rs : RS G.K o c ρ S σ H) (p : PostS G W o c H (sA fa k ρ S) Dn)
    (q : ∀ ts S1 vs o1 c1 H1, Step isCell o c H o1 c1 H1 → NT o1 → RS G.K o1 c1 ρ S1 σ H1 → RepTs G.K o1 c1 H1 vs ts → PostS G W o1 c1 H1 (k ts ρ S1) Dn → Q vs H1) : t σ H Q := by
  refine h σ H ρ S o c Q nt rs ?_
  unfold sA at p
  cases e : fa ρ S with
  | ok t S1 => rw [e] at p; exact fun v o' c' H' s nt' rs' r' => q t S1 v o' c' H' s nt' rs' r' (PostS.step s.weak p)
  | exc e S1 => rw [e] at p; exact fun cls d o' c' H' s rs' nt' x => p cls d σ o' c' H' s.weak nt' rs' x
  | bad => rw [e] at p; exact p
theorem UAR.s {Dn : Ends} {t : TA} {k : List BV.D → En → Sto → Fl} {S : Sto} {Q : List V → Hp → Prop} (h : UAR G W t fs) (nt : NT o) (rs : RS G.K o c ρ S σ H) (p : PostS G W o c H (sA fs k ρ S) Dn)
    (q : ∀ ds S1 vs o1 c1 H1, Step isCell o c H o1 c1 H1 → NT o1 → RS G.K o1 c1 ρ S1 σ H1 → RepUs G.K o1 H1 vs ds → PostS G W o1 c1 H1 (k ds ρ S1) Dn → Q vs H1) : t σ H Q := by
  refine h σ H ρ S o c Q nt rs ?_
  unfold sA at p
  cases e : fs ρ S with
  | ok t S1 => rw [e] at p; exact fun v o' c' H' s nt' rs' r' => q t S1 v o' c' H' s nt' rs' r' (PostS.step s.weak p)
  | exc e S1 => rw [e] at p; exact fun cls d o' c' H' s rs' nt' x => p cls d σ o' c' H' s.weak nt' rs' x
  | bad => rw [e] at p; exact p

end
end BV
/-! The by-value calculus: list methods, items stored. -/
namespace BV
open PySem L2

/-- the rule r of a method, by values: the list and the result behind it -/
def LMut (K : PySem.W.Frag) (r : V → List V → Hp → VK → Prop) (m : List D → List D → Option (List D × D)) : Prop := ∀ (o : Gh) (H : Hp) (a : Addr) (vs : List V) (xs : List D) (us : List V) (ds xs' : List D) (d : D) (Q : VK),
  H a = some (.lst vs) → vs.length ≤ sizeLine → RepAll K o H vs xs → RepAll K o H us ds → m xs ds = some (xs', d) → (∀ v vs', RepAll K o H vs' xs' → vs'.length ≤ sizeLine → Rep K o H v d → Q v (upd H a (.lst vs'))) → r (.ref a) us H Q
/-- .. the arguments read as operands -/
def LMutU (K : PySem.W.Frag) (r : V → List V → Hp → VK → Prop) (m : List D → List D → Option (List D × D)) : Prop := ∀ (o : Gh) (H : Hp) (a : Addr) (vs : List V) (xs : List D) (us : List V) (ds xs' : List D) (d : D) (Q : VK),
  H a = some (.lst vs) → vs.length ≤ sizeLine → RepAll K o H vs xs → RepUs K o H us ds → m xs ds = some (xs', d) → (∀ v vs', RepAll K o H vs' xs' → vs'.length ≤ sizeLine → Rep K o H v d → Q v (upd H a (.lst vs'))) → r (.ref a) us H Q
/-- a method of lists: its name, its rule -/
structure LM (G : Cc) (x : Str) (m : List D → List D → Option (List D × D)) : Prop where
  ex : ∃ (id : String) (r : V → List V → Hp → VK → Prop), Slot "list" x id ∧ typeOf (.builtin id) = pure (.type "method_descriptor") ∧ (∀ X W, G.Ok X W → MtR X id r) ∧ LMut G.K r m
structure LMU (G : Cc) (x : Str) (m : List D → List D → Option (List D × D)) : Prop where
  ex : ∃ (id : String) (r : V → List V → Hp → VK → Prop), Slot "list" x id ∧ typeOf (.builtin id) = pure (.type "method_descriptor") ∧ (∀ X W, G.Ok X W → MtR X id r) ∧ LMutU G.K r m
theorem RepAll.oneV {K : PySem.W.Frag} {o : Gh} {H : Hp} {us : List V} {d : D} (r : RepAll K o H us [d]) : ∃ v, us = [v] ∧ Rep K o H v d := by
  cases r with
  | cons v _ ws _ h1 h2 => cases h2; exact ⟨v, rfl, h1⟩
theorem RepAll.nilV {K : PySem.W.Frag} {o : Gh} {H : Hp} {us : List V} (r : RepAll K o H us []) : us = [] := by cases r; rfl
theorem RepAll.twoV {K : PySem.W.Frag} {o : Gh} {H : Hp} {us : List V} {d e : D} (r : RepAll K o H us [d, e]) : ∃ v w, us = [v, w] ∧ Rep K o H v d ∧ Rep K o H w e := by
  cases r with
  | cons v _ ws _ h1 h2 =>
    obtain ⟨w, rfl, h⟩ := h2.oneV
    exact ⟨v, w, rfl, h1, h⟩
def mAppend : List D → List D → Option (List D × D)
  | xs, [d] => if xs.length < sizeLine then some (xs ++ [d], .none) else none
  | _, _ => none
def mExtend : List D → List D → Option (List D × D)
  | xs, [.list ys] => if xs.length + ys.length ≤ sizeLine then some (xs ++ ys, .none) else none
  | _, _ => none
def mClear : List D → List D → Option (List D × D)
  | _, [] => some ([], .none)
  | _, _ => none
def mReverse : List D → List D → Option (List D × D)
  | xs, [] => some (xs.reverse, .none)
  | _, _ => none
def mPop : List D → List D → Option (List D × D)
  | xs, [] => (xs[xs.length - 1]?).map fun d => (xs.dropLast, d)
  | _, _ => none
def mPopAt : List D → List D → Option (List D × D)
  | xs, [.int i] => if smallI i = true then (seqIndex? i xs.length).bind fun k => (xs[k]?).map fun d => (xs.eraseIdx k, d) else none
  | _, _ => none
def mInsert : List D → List D → Option (List D × D)
  | xs, [.int i, d] => if xs.length < sizeLine ∧ 0 ≤ i ∧ smallI i = true then some (xs.take i.toNat ++ [d] ++ xs.drop i.toNat, .none) else none
  | _, _ => none
section
variable {G : Cc}
theorem lm_append : LM G "append" mAppend := ⟨"list.append", rAppend, PySem.F.slot_list_append, PySem.F.type_list_append, fun X W k => mt_append, by
  intro o H a vs xs us ds xs' d Q h z r ra e q
  unfold mAppend at e
  split at e
  · split at e
    · cases e
      rename_i hl
      obtain ⟨v, rfl, rv⟩ := ra.oneV
      rw [← r.length] at hl
      exact ⟨a, vs, v, rfl, rfl, h, hl, q .non _ (r.append (.cons _ _ _ _ rv .nil)) (by rw [List.length_append]; exact hl) .non⟩
    · cases e
  · cases e⟩
theorem lm_extend : LMU G "extend" mExtend := ⟨"list.extend", rExtend, PySem.F.slot_list_extend, PySem.F.type_list_extend, fun X W k => mt_extend, by
  intro o H a vs xs us ds xs' d Q h z r ra e q
  unfold mExtend at e
  split at e
  · split at e
    · cases e
      rename_i hl
      obtain ⟨v, rfl, rv⟩ := ra.one
      obtain ⟨b, ws, rfl, hb, _, zb, rb⟩ := rv.lstV
      rw [← r.length, ← rb.length] at hl
      exact ⟨a, b, vs, ws, rfl, rfl, h, hb, hl, q .non _ (r.append rb) (by rw [List.length_append]; exact hl) .non⟩
    · cases e
  · cases e⟩
theorem lm_clear : LM G "clear" mClear := ⟨"list.clear", rClear, PySem.F.slot_list_clear, PySem.F.type_list_clear, fun X W k => mt_clear, by
  intro o H a vs xs us ds xs' d Q h z r ra e q
  unfold mClear at e
  split at e
  · cases e
    cases ra.nilV
    exact ⟨a, vs, rfl, rfl, h, q .non _ .nil (Nat.zero_le _) .non⟩
  · cases e⟩
theorem lm_reverse : LM G "reverse" mReverse := ⟨"list.reverse", rReverse, PySem.F.slot_list_reverse, PySem.F.type_list_reverse, fun X W k => mt_reverse, by
  intro o H a vs xs us ds xs' d Q h z r ra e q
  unfold mReverse at e
  split at e
  · cases e
    cases ra.nilV
    exact ⟨a, vs, rfl, rfl, h, q .non _ r.reverse (by rw [List.length_reverse]; exact z) .non⟩
  · cases e⟩
theorem RepAll.dropLast {K : PySem.W.Frag} {o : Gh} {H : Hp} {vs : List V} {ds : List D} (r : RepAll K o H vs ds) : RepAll K o H vs.dropLast ds.dropLast := by
  rw [List.dropLast_eq_take, List.dropLast_eq_take, r.length]
  exact r.take _
theorem RepAll.eraseIdx {K : PySem.W.Frag} {o : Gh} {H : Hp} : ∀ {vs : List V} {ds : List D} (i : Nat), RepAll K o H vs ds → RepAll K o H (vs.eraseIdx i) (ds.eraseIdx i)
  | _, _, _, .nil => .nil
  | _, _, 0, .cons _ _ vs ds _ h2 => h2
  | _, _, i + 1, .cons _ _ vs ds h1 h2 => .cons _ _ _ _ h1 (RepAll.eraseIdx i h2)
theorem lm_pop : LM G "pop" mPop := ⟨"list.pop", rPop, PySem.F.slot_list_pop, PySem.F.type_list_pop, fun X W k => mt_pop, by
  intro o H a vs xs us ds xs' d Q h z r ra e q
  unfold mPop at e
  split at e
  · cases ra.nilV
    cases e1 : xs[xs.length - 1]? with
    | none => rw [e1] at e; cases e
    | some y =>
      rw [e1] at e
      cases e
      obtain ⟨v, e2, rv⟩ := r.get e1
      rw [← r.length] at e2
      exact ⟨a, vs, v, rfl, rfl, h, e2, q v _ r.dropLast (Nat.le_trans (by rw [List.length_dropLast]; omega) z) rv⟩
  · cases e⟩
theorem lm_popAt : LM G "pop" mPopAt := ⟨"list.pop", rPopAt, PySem.F.slot_list_pop, PySem.F.type_list_pop, fun X W k => mt_popAt, by
  intro o H a vs xs us ds xs' d Q h z r ra e q
  unfold mPopAt at e
  split at e
  · split at e
    · rename_i hh
      obtain ⟨u, rfl, ru⟩ := ra.oneV
      cases e0 : seqIndex? _ xs.length with
      | none => rw [e0] at e; cases e
      | some k =>
        rw [e0, Option.bind_some] at e
        cases e1 : xs[k]? with
        | none => rw [e1] at e; cases e
        | some y =>
          rw [e1] at e
          cases e
          obtain ⟨v, e2, rv⟩ := r.get e1
          exact ⟨a, vs, _, k, v, rfl, by rw [ru.intV], h, smallI_lo3 hh, smallI_hi3 hh, by rw [r.length]; exact e0, e2, q v _ (r.eraseIdx k) (Nat.le_trans (len_erase _ _) z) rv⟩
    · cases e
  · cases e⟩
theorem lm_insert : LM G "insert" mInsert := ⟨"list.insert", _, PySem.F.slot_list_insert, PySem.F.type_list_insert, fun X W k => mt_insert, by
  intro o H a vs xs us ds xs' d Q h z r ra e q
  unfold mInsert at e
  split at e
  · split at e
    · cases e
      rename_i hl
      obtain ⟨u, v, rfl, ru, rv⟩ := ra.twoV
      rw [← r.length] at hl
      exact ⟨a, vs, _, v, rfl, by rw [ru.intV], h, hl.1, hl.2.1, smallI_hi3 hl.2.2, q .non _ (((r.take _).append (.cons _ _ _ _ rv .nil)).append (r.drop _)) (by simp only [List.length_append, List.length_take, List.length_drop, List.length_singleton]; omega) .non⟩
    · cases e
  · cases e⟩
end

/-! ### on a name's own list -/
section
variable {G : Cc} {W : WX} {o o1 : Gh} {c c1 : Cs} {ρ : En} {σ : L2.St} {H H1 : Hp} {pos p : Pos} {a b e : Expr} {es : List Expr} {f f1 f2 f3 : SE} {fs : SA} {fu : SU} {Dn : Ends} {m : List BV.D → List BV.D → Option (List BV.D × BV.D)}
theorem upd_slot {K : PySem.W.Frag} {S : Sto} {a : Addr} {i : Nat} {xs xs' : List BV.D} {vs' : List V} {d : BV.D} {v : V} (rs : RS K o c ρ S σ H) (h1 : o a = some (.slot i)) (es : σ[i]? = some (some (.ref a))) (r : RepAll K o H vs' xs') (z : vs'.length ≤ sizeLine) :
    Step isVol o c H o c (upd H a (.lst vs')) ∧ RS K o c (ρ.set i (some (.own xs'))) S σ (upd H a (.lst vs')) := ⟨write_step h1, rs.relist h1 es z r⟩
theorem lm_fin {K : PySem.W.Frag} {r : V → List V → Hp → VK → Prop} {S : Sto} {i : Nat} {xs xs' ds : List BV.D} {us : List V} {d : BV.D} {v : V} {Q : VK} (hm : LMut K r m) (rs : RS K o c ρ S σ H) (e : ρ[i]? = some (some (.own xs))) (ev : σ[i]? = some (some v)) (ra : RepAll K o H us ds) (em : m xs ds = some (xs', d))
    (q : ∀ v' H2, Step isVol o c H o c H2 → RS K o c (ρ.set i (some (.own xs'))) S σ H2 → Rep K o H2 v' d → Q v' H2) : r v us H Q := by
  obtain ⟨a, vs, es, h1, h2, h3, h4⟩ := rs.ownAt e
  rw [ev] at es
  cases es
  refine hm o H a vs xs us ds xs' d Q h2 h3 h4 ra em fun v' vs' r' z rv => ?_
  obtain ⟨s, rs2⟩ := upd_slot (d := d) (v := v') (xs := xs) rs h1 ev r' z
  exact q v' _ s rs2 (rv.kept rs.cs.trk (write_kept (by rw [h1]; simp)))
theorem lmu_fin {K : PySem.W.Frag} {r : V → List V → Hp → VK → Prop} {S : Sto} {i : Nat} {xs xs' ds : List BV.D} {us : List V} {d : BV.D} {v : V} {Q : VK} (hm : LMutU K r m) (rs : RS K o c ρ S σ H) (e : ρ[i]? = some (some (.own xs))) (ev : σ[i]? = some (some v)) (ra : RepUs K o H us ds) (em : m xs ds = some (xs', d))
    (q : ∀ v' H2, Step isVol o c H o c H2 → RS K o c (ρ.set i (some (.own xs'))) S σ H2 → Rep K o H2 v' d → Q v' H2) : r v us H Q := by
  obtain ⟨a, vs, es, h1, h2, h3, h4⟩ := rs.ownAt e
  rw [ev] at es
  cases es
  refine hm o H a vs xs us ds xs' d Q h2 h3 h4 ra em fun v' vs' r' z rv => ?_
  obtain ⟨s, rs2⟩ := upd_slot (d := d) (v := v') (xs := xs) rs h1 ev r' z
  exact q v' _ s rs2 (rv.kept rs.cs.trk (write_kept (by rw [h1]; simp)))
theorem own_ty {K : PySem.W.Frag} {S : Sto} {i : Nat} {xs : List BV.D} {v : V} (rs : RS K o c ρ S σ H) (e : ρ[i]? = some (some (.own xs))) (ev : σ[i]? = some (some v)) : tyV K "list" v H := by
  obtain ⟨a, vs, es, h1, h2, h3, h4⟩ := rs.ownAt e
  rw [ev] at es
  cases es
  exact .inl ⟨rfl, vs, .of h2⟩
/-- x.m(..), then the rest with its value -/
def sLM (i : Nat) (m : List BV.D → List BV.D → Option (List BV.D × BV.D)) (fs : SA) (k : BV.D → En → Sto → Fl) : SS := fun ρ S => match ρ[i]? with
  | some (some (.own xs)) => sA fs (fun ts ρ S => match allD ts with
    | some ds => (match m xs ds with | some (xs', d) => k d (ρ.set i (some (.own xs'))) S | none => .bad)
    | none => .bad) ρ S
  | _ => .bad
def sLMU (i : Nat) (m : List BV.D → List BV.D → Option (List BV.D × BV.D)) (fs : SU) (k : BV.D → En → Sto → Fl) : SS := fun ρ S => match ρ[i]? with
  | some (some (.own xs)) => sA fs (fun ds ρ S => match m xs ds with | some (xs', d) => k d (ρ.set i (some (.own xs'))) S | none => .bad) ρ S
  | _ => .bad
theorem sr_lm {t : TA} {r : V → List V → Hp → VK → Prop} {k : BV.D → En → Sto → Fl} {S : Sto} {Q : VK} {i : Nat} (hm : LMut G.K r m) (ha : AR G W t fs) (nt : NT o) (rs : RS G.K o c ρ S σ H) (p : PostS G W o c H (sLM i m fs k ρ S) Dn)
    (q : ∀ v d ρ' S' o' c' H', Step isVol o c H o' c' H' → NT o' → RS G.K o' c' ρ' S' σ H' → Rep G.K o' H' v d → PostS G W o' c' H' (k d ρ' S') Dn → Q v H') : tBM G.K "list" r (tVar i) t σ H Q := by
  unfold sLM at p
  split at p
  · rename_i xs e
    obtain ⟨a, vs, ev, h1, h2, h3, h4⟩ := rs.ownAt e
    refine ⟨_, ev, own_ty rs e ev, ?_⟩
    refine ha.s nt rs p fun ts S1 us o1 c1 H1 s1 nt1 rs1 r1 p1 => ?_
    cases e1 : allD ts with
    | none => simp only [e1] at p1; exact p1.elim
    | some ds =>
      simp only [e1] at p1
      cases e2 : m xs ds with
      | none => simp only [e2] at p1; exact p1.elim
      | some x =>
        obtain ⟨xs', d⟩ := x
        simp only [e2] at p1
        refine lm_fin hm rs1 e ev (r1.all e1) e2 fun v' H2 s2 rs2 rv => ?_
        exact q v' d _ S1 o1 c1 H2 (s1.weak.trans s2) nt1 rs2 rv (PostS.step s2 p1)
  · exact p.elim
theorem sr_lmu {t : TA} {r : V → List V → Hp → VK → Prop} {k : BV.D → En → Sto → Fl} {S : Sto} {Q : VK} {i : Nat} (hm : LMutU G.K r m) (ha : UAR G W t fu) (nt : NT o) (rs : RS G.K o c ρ S σ H) (p : PostS G W o c H (sLMU i m fu k ρ S) Dn)
    (q : ∀ v d ρ' S' o' c' H', Step isVol o c H o' c' H' → NT o' → RS G.K o' c' ρ' S' σ H' → Rep G.K o' H' v d → PostS G W o' c' H' (k d ρ' S') Dn → Q v H') : tBM G.K "list" r (tVar i) t σ H Q := by
  unfold sLMU at p
  split at p
  · rename_i xs e
    obtain ⟨a, vs, ev, h1, h2, h3, h4⟩ := rs.ownAt e
    refine ⟨_, ev, own_ty rs e ev, ?_⟩
    refine ha.s nt rs p fun ds S1 us o1 c1 H1 s1 nt1 rs1 r1 p1 => ?_
    cases e2 : m xs ds with
    | none => simp only [e2] at p1; exact p1.elim
    | some x =>
      obtain ⟨xs', d⟩ := x
      simp only [e2] at p1
      refine lmu_fin hm rs1 e ev r1 e2 fun v' H2 s2 rs2 rv => ?_
      exact q v' d _ S1 o1 c1 H2 (s1.weak.trans s2) nt1 rs2 rv (PostS.step s2 p1)
  · exact p.elim
theorem sr_lm0 {r : V → List V → Hp → VK → Prop} {k : BV.D → En → Sto → Fl} {S : Sto} {Q : VK} {i : Nat} (hm : LMut G.K r m) (nt : NT o) (rs : RS G.K o c ρ S σ H) (p : PostS G W o c H (sLM i m aNil k ρ S) Dn)
    (q : ∀ v d ρ' S' o' c' H', Step isVol o c H o' c' H' → NT o' → RS G.K o' c' ρ' S' σ H' → Rep G.K o' H' v d → PostS G W o' c' H' (k d ρ' S') Dn → Q v H') : tBM0 G.K "list" r (tVar i) σ H Q := by
  unfold sLM at p
  split at p
  · rename_i xs e
    obtain ⟨a, vs, ev, h1, h2, h3, h4⟩ := rs.ownAt e
    refine ⟨_, ev, own_ty rs e ev, ?_⟩
    unfold sA aNil at p
    simp only [allD] at p
    cases e2 : m xs [] with
    | none => simp only [e2] at p; exact p.elim
    | some x =>
      obtain ⟨xs', d⟩ := x
      simp only [e2] at p
      refine lm_fin hm rs e ev .nil e2 fun v' H2 s2 rs2 rv => ?_
      exact q v' d _ S o c H2 s2 nt rs2 rv (PostS.step s2 p)
  · exact p.elim
def kDrop : BV.D → En → Sto → Fl := fun _ ρ S => .nx ρ S
def kAsg (j : Nat) : BV.D → En → Sto → Fl := fun d ρ S => .nx (ρ.set j (some (.val d))) S
def kRet : BV.D → En → Sto → Fl := fun d _ S => .rt (.val d) S
/-- the node x.m(..) -/
theorem pe_lm (i : Nat) {x nm : Str} {id : String} {r : V → List V → Hp → VK → Prop} {xp ap cp : Pos} {X : Cx} {W : WX} {t : TA} (k : G.Ok X W) (sl : Slot "list" nm id) (ty : typeOf (.builtin id) = pure (.type "method_descriptor")) (hm : MtR X id r) (ha : PA X (e :: es) t)
    (hN : G.N[i]? = some x) (hv : Vis G.sc x) (hd : (x == ("__debug__" : Str)) = false) (hcd : (x == ("__classdict__" : Str)) = false)
    (hbase : ∀ env : PySem.Env, attributeBase (.Name x xp) nm env (eval (.Name x xp) env) = eval (.Name x xp) env)
    (hfew : ∀ env : PySem.Env, ((backTo cp (starEach (e :: es) env)).all (fun x => !x.1) && (backToKw cp (keywordEach [] env)).all (fun x => x.1.isSome) && decide ((e :: es).length + ([] : List Keyword).length + (if ([] : List Keyword).isEmpty then 0 else 1) < 30)) = true)
    (hline : (ap.endLine == cp.line) = true) (hs : ∀ env : PySem.Env, starEach (e :: es) env = (false, eval e env) :: starEach es env) (hpl : ∀ env : PySem.Env, (backTo cp (starEach es env)).any (·.1) = false) :
    PE X (.Call (.Attribute (.Name x xp) nm ap) (e :: es) [] cp) (tBM G.K "list" r (tVar i) t) := by
  have := pe_bm (X := X) PySem.F.plainAttrs_list sl ty hm (pe_var (pos := xp) (k.at hN) (k.vis hv) hd hcd) ha (hbase _) (hfew _) hline (hs _) (hpl _)
  rw [k.K] at this
  exact this
theorem pe_lm0 (i : Nat) {x nm : Str} {id : String} {r : V → List V → Hp → VK → Prop} {xp ap cp : Pos} {X : Cx} {W : WX} (k : G.Ok X W) (sl : Slot "list" nm id) (ty : typeOf (.builtin id) = pure (.type "method_descriptor")) (hm : MtR X id r)
    (hN : G.N[i]? = some x) (hv : Vis G.sc x) (hd : (x == ("__debug__" : Str)) = false) (hcd : (x == ("__classdict__" : Str)) = false)
    (hbase : ∀ env : PySem.Env, attributeBase (.Name x xp) nm env (eval (.Name x xp) env) = eval (.Name x xp) env) (hline : (ap.endLine == cp.line) = true) :
    PE X (.Call (.Attribute (.Name x xp) nm ap) [] [] cp) (tBM0 G.K "list" r (tVar i)) := by
  have := pe_bm0 (X := X) (cpos := cp) PySem.F.plainAttrs_list sl ty hm (pe_var (pos := xp) (k.at hN) (k.vis hv) hd hcd) (hbase _) hline
  rw [k.K] at this
  exact this
/-- x.m(e, ..) as a statement -/
theorem sv_lm (i : Nat) {x nm : Str} {xp ap cp : Pos} (L : LM G nm m) (h : AV G (e :: es) fs) (hN : G.N[i]? = some x := by rfl) (hv : Vis G.sc x := by first | exact Or.inl rfl | exact Or.inr (Or.inl rfl) | exact Or.inr (Or.inr rfl)) (hd : (x == ("__debug__" : Str)) = false := by decide) (hcd : (x == ("__classdict__" : Str)) = false := by decide)
    (hbase : ∀ env : PySem.Env, attributeBase (.Name x xp) nm env (eval (.Name x xp) env) = eval (.Name x xp) env := by intro _; rfl)
    (hfew : ∀ env : PySem.Env, ((backTo cp (starEach (e :: es) env)).all (fun x => !x.1) && (backToKw cp (keywordEach [] env)).all (fun x => x.1.isSome) && decide ((e :: es).length + ([] : List Keyword).length + (if ([] : List Keyword).isEmpty then 0 else 1) < 30)) = true := by intro _; rfl)
    (hline : (ap.endLine == cp.line) = true := by rfl) (hs : ∀ env : PySem.Env, starEach (e :: es) env = (false, eval e env) :: starEach es env := by intro _; rfl) (hpl : ∀ env : PySem.Env, (backTo cp (starEach es env)).any (·.1) = false := by intro _; rfl)
    (hw : ∀ env : PySem.Env, swapsWith (.Call (.Attribute (.Name x xp) nm ap) (e :: es) [] cp) none pos.line env = pure false := by intro _; rfl) :
    SV G (.Expr (.Call (.Attribute (.Name x xp) nm ap) (e :: es) [] cp) pos) (sLM i m fs kDrop) := by
  obtain ⟨t, pp, q⟩ := h
  obtain ⟨id, r, sl, ty, hr, hm⟩ := L.ex
  exact ⟨fun W => tDrop (tBM G.K "list" r (tVar i) (t W)), fun X W k => ps_expr (pe_lm i k sl ty (hr X W k) (pp X W k) hN hv hd hcd hbase hfew hline hs hpl) (hw _), fun W σ H ρ S o c D nt rs ps =>
    sr_lm hm (q W) nt rs ps fun v d ρ' S' o' c' H' s nt' rs' rv p' => p' σ o' c' H' Step.refl nt' rs'⟩
theorem sv_lmu (i : Nat) {x nm : Str} {xp ap cp : Pos} (L : LMU G nm m) (h : UAV G (e :: es) fu) (hN : G.N[i]? = some x := by rfl) (hv : Vis G.sc x := by first | exact Or.inl rfl | exact Or.inr (Or.inl rfl) | exact Or.inr (Or.inr rfl)) (hd : (x == ("__debug__" : Str)) = false := by decide) (hcd : (x == ("__classdict__" : Str)) = false := by decide)
    (hbase : ∀ env : PySem.Env, attributeBase (.Name x xp) nm env (eval (.Name x xp) env) = eval (.Name x xp) env := by intro _; rfl)
    (hfew : ∀ env : PySem.Env, ((backTo cp (starEach (e :: es) env)).all (fun x => !x.1) && (backToKw cp (keywordEach [] env)).all (fun x => x.1.isSome) && decide ((e :: es).length + ([] : List Keyword).length + (if ([] : List Keyword).isEmpty then 0 else 1) < 30)) = true := by intro _; rfl)
    (hline : (ap.endLine == cp.line) = true := by rfl) (hs : ∀ env : PySem.Env, starEach (e :: es) env = (false, eval e env) :: starEach es env := by intro _; rfl) (hpl : ∀ env : PySem.Env, (backTo cp (starEach es env)).any (·.1) = false := by intro _; rfl)
    (hw : ∀ env : PySem.Env, swapsWith (.Call (.Attribute (.Name x xp) nm ap) (e :: es) [] cp) none pos.line env = pure false := by intro _; rfl) :
    SV G (.Expr (.Call (.Attribute (.Name x xp) nm ap) (e :: es) [] cp) pos) (sLMU i m fu kDrop) := by
  obtain ⟨t, pp, q⟩ := h
  obtain ⟨id, r, sl, ty, hr, hm⟩ := L.ex
  exact ⟨fun W => tDrop (tBM G.K "list" r (tVar i) (t W)), fun X W k => ps_expr (pe_lm i k sl ty (hr X W k) (pp X W k) hN hv hd hcd hbase hfew hline hs hpl) (hw _), fun W σ H ρ S o c D nt rs ps =>
    sr_lmu hm (q W) nt rs ps fun v d ρ' S' o' c' H' s nt' rs' rv p' => p' σ o' c' H' Step.refl nt' rs'⟩
theorem sv_lm0 (i : Nat) {x nm : Str} {xp ap cp : Pos} (L : LM G nm m) (hN : G.N[i]? = some x := by rfl) (hv : Vis G.sc x := by first | exact Or.inl rfl | exact Or.inr (Or.inl rfl) | exact Or.inr (Or.inr rfl)) (hd : (x == ("__debug__" : Str)) = false := by decide) (hcd : (x == ("__classdict__" : Str)) = false := by decide)
    (hbase : ∀ env : PySem.Env, attributeBase (.Name x xp) nm env (eval (.Name x xp) env) = eval (.Name x xp) env := by intro _; rfl) (hline : (ap.endLine == cp.line) = true := by rfl)
    (hw : ∀ env : PySem.Env, swapsWith (.Call (.Attribute (.Name x xp) nm ap) [] [] cp) none pos.line env = pure false := by intro _; rfl) :
    SV G (.Expr (.Call (.Attribute (.Name x xp) nm ap) [] [] cp) pos) (sLM i m aNil kDrop) := by
  obtain ⟨id, r, sl, ty, hr, hm⟩ := L.ex
  exact ⟨fun W => tDrop (tBM0 G.K "list" r (tVar i)), fun X W k => ps_expr (pe_lm0 i k sl ty (hr X W k) hN hv hd hcd hbase hline) (hw _), fun W σ H ρ S o c D nt rs ps =>
    sr_lm0 hm nt rs ps fun v d ρ' S' o' c' H' s nt' rs' rv p' => p' σ o' c' H' Step.refl nt' rs'⟩
end
end BV
/-! The by-value calculus: borrowing, items stored, cells made and written. -/
namespace BV
open PySem L2

/-! ### without lists: no owner is asked -/
mutual
def lf : D → Bool
  | .list _ => false
  | .tuple xs => lfs xs
  | .dict _ => false
  | .none => true
  | .bool _ => true
  | .int _ => true
  | .str _ => true
def lfs : List D → Bool
  | [] => true
  | x :: xs => lf x && lfs xs
end
mutual
theorem Rep.lf {K : PySem.W.Frag} {o o' : Gh} {H : Hp} : ∀ {v : V} {d : D}, Rep K o H v d → BV.lf d = true → Rep K o' H v d
  | _, _, .non, _ => .non
  | _, _, .bl b, _ => .bl b
  | _, _, .int i, _ => .int i
  | _, _, .str x h1 h2, _ => .str x h1 h2
  | _, _, .lst a vs ds h1 h2 h3 h4, n => nomatch n
  | _, _, .tup a vs ds h1 h2 h3, n => .tup a vs ds h1 h2 (RepAll.lf h3 n)
  | _, _, .dct tk a ks vs ds kvs h1 h2 h3 h5 h4 e, n => nomatch n
theorem RepAll.lf {K : PySem.W.Frag} {o o' : Gh} {H : Hp} : ∀ {vs : List V} {ds : List D}, RepAll K o H vs ds → lfs ds = true → RepAll K o' H vs ds
  | _, _, .nil, _ => .nil
  | _, _, .cons v d vs ds h1 h2, n => by
    rw [lfs, Bool.and_eq_true] at n
    exact .cons v d vs ds (Rep.lf h1 n.1) (RepAll.lf h2 n.2)
end
def lfT : T → Bool
  | .val d => lf d
  | .own xs => lfs xs
  | .own2 _ => false
  | .ownd _ kvs => lfs (kvs.map (·.2))
  | .cel _ => true
  | .scr _ => false
  | .exn _ _ _ _ => false
  | .tree _ => false
def lfC : Ce → Bool
  | .dead => true
  | .lst xs => lfs xs
  | .dct _ kvs => lfs (kvs.map (·.2))
  | .tab => true
def lfS (S : Sto) : Bool := S.all lfC
/-! ### a name's own things are lent to an expression -/
def frT : T → T
  | .own xs => .val (.list xs)
  | .own2 xss => .val (.list (xss.map PyData.list))
  | .ownd q kvs => .val (.dict (mkD q kvs))
  | .tree d => .val d
  | t => t
def frE (ρ : En) : En := ρ.map fun t => t.map frT
def cBor (f : SE) : SE := fun ρ S => match f (frE ρ) S with
  | .ok t S1 => if lfT t && lfS S1 then .ok t S1 else .bad
  | .exc e S1 => if lfS S1 then .exc e S1 else .bad
  | .bad => .bad
/-- owners given back -/
def giveB (o o2 : Gh) : Gh := fun a => match o a with
  | some (.slot i) => some (.slot i)
  | _ => o2 a
section
variable {G : Cc} {W : WX} {o o1 o2 : Gh} {c c1 c2 : Cs} {ρ : En} {σ : L2.St} {H H1 H2 : Hp} {S S1 : Sto} {pos p : Pos} {a b e : Expr} {f : SE} {t : T} {v : V}
theorem frT_as {t : T} : frT t = asA t := by cases t <;> rfl
theorem RepT.fr {K : PySem.W.Frag} {i : Nat} (tr : Trk o H) (r : RepT K o c H (.slot i) v t) : RepT K (dropO isSlot o) c H (.slot i) v (frT t) := by
  -- its owner: temporary, then let go
  have un : ∀ a, o a = some (.slot i) → dropO isSlot o a = none := fun a h => by unfold dropO; rw [h]; rfl
  cases t with
  | val d => exact Rep.kept tr drop_kept r
  | own xs =>
    obtain ⟨x, vs, rfl, q, h, z, ra⟩ := r
    exact .lst x vs _ h (un _ q) z (ra.kept tr drop_kept)
  | own2 xss =>
    obtain ⟨x, as, rfl, q, h, nd, z, le, f⟩ := r
    refine .lst x _ _ h (un _ q) (by rw [List.length_map]; exact z) ?_
    clear h nd z q
    induction as generalizing xss with
    | nil =>
      cases xss with
      | nil => exact .nil
      | cons _ _ => simp at le
    | cons b as ih =>
      cases xss with
      | nil => simp at le
      | cons xs xss =>
        obtain ⟨q', vs, h', z', ra⟩ := f 0 b xs rfl rfl
        refine .cons _ _ _ _ (.lst b vs xs h' (un _ q') z' (ra.kept tr drop_kept)) (ih xss (by simpa using le) fun i b' xs' e1 e2 => f (i + 1) b' xs' (by simpa using e1) (by simpa using e2))
  | ownd tk kvs =>
    obtain ⟨x, ks, vs, ds, rfl, q, h, z, z2, ra, rfl⟩ := r
    exact .dct tk x ks vs ds _ h.r (un _ q) z z2 (ra.kept tr drop_kept) rfl
  | cel n => exact r
  | scr ns =>
    obtain ⟨x, e, z, h⟩ := r
    refine ⟨x, e, z, ?_⟩
    rcases h with h | ⟨h, n⟩ | h
    · exact .inl h
    · exact .inr (.inl ⟨h, dropO_none n⟩)
    · exact .inr (.inr h)
  | exn _ _ _ _ => exact r
  | tree d =>
    obtain ⟨as, r, nd⟩ := r
    exact r.rep un
theorem RS.fr {K : PySem.W.Frag} (rs : RS K o c ρ S σ H) : RS K (dropO isSlot o) c (frE ρ) S σ H :=
  ⟨by unfold frE; rw [List.length_map]; exact rs.len, fun i t e => by
    unfold frE at e
    rw [List.getElem?_map] at e
    cases e1 : ρ[i]? with
    | none => rw [e1] at e; cases e
    | some u =>
      rw [e1] at e
      cases u with
      | none => cases e
      | some t0 =>
        simp only [Option.map_some, Option.some.injEq] at e
        subst e
        obtain ⟨v, ev, r⟩ := rs.slot i t0 e1
        exact ⟨v, ev, r.fr rs.cs.trk⟩, rs.cs.drop fun _ => rfl⟩
theorem bor_step (s : Step isCell (dropO isSlot o) c H o2 c2 H2) : Step isCell o c H (giveB o o2) c2 H2 where
  keep := fun a u e n => s.keep a u e fun w hw => n w (dropO_of hw).1
  own := fun a w e n => by
    unfold giveB
    rw [e]
    cases w with
    | slot i => rfl
    | cell n' => exact absurd trivial n
    | tmp => exact s.own a _ (dropO_some e rfl) n
    | prot => exact s.own a _ (dropO_some e rfl) n
  new := fun a e n => by
    unfold giveB at n
    rw [e] at n
    exact s.new a (dropO_none e) n
  pre := s.pre
theorem bor_other (s : Step isCell (dropO isSlot o) c H o2 c2 H2) (tr : Trk o H) {a : Addr} {w : Ow} (h : o2 a = some w) : giveB o o2 a = some w := by
  unfold giveB
  cases e : o a with
  | none => exact h
  | some u =>
    cases u with
    | slot i =>
      have e1 : dropO isSlot o a = none := by unfold dropO; rw [e]; rfl
      have := s.new a e1 (by rw [h]; simp)
      obtain ⟨u, hu, _⟩ := tr a (by rw [e]; simp)
      rw [this] at hu; cases hu
    | _ => exact h
theorem bor_trk (s : Step isCell (dropO isSlot o) c H o2 c2 H2) (tr : Trk o H) (tr2 : Trk o2 H2) : Trk (giveB o o2) H2 := fun a h => by
  cases e : o a with
  | none => exact tr2 a (by unfold giveB at h; rw [e] at h; exact h)
  | some u =>
    cases u with
    | slot i =>
      obtain ⟨u, hu, q⟩ := tr a (by rw [e]; simp)
      exact ⟨u, s.keep a u hu (fun w hw => by have := (dropO_of hw).1; rw [e] at this; cases this; have := (dropO_of hw).2; simp [isSlot] at this), q⟩
    | _ => exact tr2 a (by unfold giveB at h; rw [e] at h; exact h)
theorem CellR.lf {K : PySem.W.Frag} {n : Nat} {b : Addr} {k : Ce} (h : ∀ b, o b = some (.cell n) → o1 b = some (.cell n)) (hk : lfC k = true) (y : CellR K o H n b k) : CellR K o1 H n b k := by
  cases k with
  | dead => trivial
  | lst xs =>
    obtain ⟨q1, vs, q2, q3, q4⟩ := y
    exact ⟨h _ q1, vs, q2, q3, q4.lf hk⟩
  | dct tk kvs =>
    obtain ⟨q1, ks, vs, ds, q2, q3, q5, q4, q6⟩ := y
    refine ⟨h _ q1, ks, vs, ds, q2, q3, q5, q4.lf ?_, q6⟩
    subst q6
    have hl : ks.length = ds.length := by rw [q5, q4.length]
    have e : (ks.zip ds).map (·.2) = ds := List.map_snd_zip (Nat.le_of_eq hl.symm)
    have hk' : lfs ((ks.zip ds).map (·.2)) = true := hk
    rw [e] at hk'
    exact hk'
  | tab =>
    obtain ⟨q0, q1, ps, q2, q3, q4⟩ := y
    exact ⟨q0, h _ q1, ps, q2, q3, fun pos cv e => by
      obtain ⟨b, e1, e2, e3⟩ := q4 pos cv e
      exact ⟨b, e1, e2, h _ e3⟩⟩
theorem bor_cs {K : PySem.W.Frag} (s : Step isCell (dropO isSlot o) c H o2 c2 H2) (tr : Trk o H) (cs : CS K o2 c2 S H2) (h : lfS S = true) : CS K (giveB o o2) c2 S H2 :=
  ⟨cs.clen, fun n a k e1 e2 => (cs.cell n a k e1 e2).lf (fun a q => bor_other s tr q) (List.all_eq_true.mp h _ (List.mem_of_getElem? e2)), bor_trk s tr cs.trk⟩
theorem bor_tmp {K : PySem.W.Frag} (s : Step isCell (dropO isSlot o) c H o2 c2 H2) (tr : Trk o H) (h : lfT t = true) (r : RepT K o2 c2 H2 .tmp v t) : RepT K (giveB o o2) c2 H2 .tmp v t := by
  cases t with
  | val d => exact Rep.lf r h
  | own xs =>
    obtain ⟨x, vs, e, q, h', z, ra⟩ := r
    exact ⟨x, vs, e, bor_other s tr q, h', z, ra.lf h⟩
  | ownd tk kvs =>
    obtain ⟨x, ks, vs, ds, e, q, h', z, z2, ra, e'⟩ := r
    refine ⟨x, ks, vs, ds, e, bor_other s tr q, h', z, z2, ra.lf ?_, e'⟩
    subst e'
    have e : (ks.zip ds).map (·.2) = ds := List.map_snd_zip (Nat.le_of_eq (by rw [z2, ra.length]))
    have hk' : lfs ((ks.zip ds).map (·.2)) = true := h
    rw [e] at hk'
    exact hk'
  | cel n => exact r
  | own2 _ => cases h
  | scr _ => cases h
  | exn _ _ _ _ => cases h
  | tree _ => cases h
theorem ev_bor (h : EV G e f) : EV G e (cBor f) := by
  obtain ⟨t, pp, q⟩ := h
  refine ⟨t, pp, fun W σ H ρ S o c Q nt rs p => ?_⟩
  refine q W σ H (frE ρ) S (dropO isSlot o) c Q (fun a h => nt a (dropO_of h).1) rs.fr ?_
  unfold cBor at p
  cases e1 : f (frE ρ) S with
  | bad => rw [e1] at p; exact p
  | exc e' S' =>
    rw [e1] at p
    intro cls d o' c' H' s rs' nt' x
    by_cases hb : lfS S' = true
    · simp only [if_pos hb] at p
      exact p cls d (giveB o o') c' H' (bor_step s) (rs.step (bor_step s) (bor_cs s rs.cs.trk rs'.cs hb)) (fun a h => by
        unfold giveB at h
        split at h
        · cases h
        · exact nt' a h) x
    · simp only [if_neg hb] at p; exact p.elim
  | ok t0 S' =>
    rw [e1] at p
    intro v o' c' H' s rs' r'
    by_cases hb : (lfT t0 && lfS S') = true
    · simp only [if_pos hb] at p
      rw [Bool.and_eq_true] at hb
      exact p v (giveB o o') c' H' (bor_step s) (rs.step (bor_step s) (bor_cs s rs.cs.trk rs'.cs hb.2)) (bor_tmp s rs.cs.trk hb.1 r')
    · simp only [if_neg hb] at p; exact p.elim

/-! ### a dict's entry -/
section
variable {K : PySem.W.Frag} {κ : Type} [DecidableEq κ]
theorem put_any (f : κ → BV.D) (g : κ → Key ⊕ List Key) (hf : ∀ k, keyOf (f k) = some (g k)) (hg : ∀ a b, g a = g b → a = b) (k : κ) : ∀ (kvs : List (κ × V)) (ds : List BV.D), kvs.length = ds.length →
    ((kvs.map (fun p => f p.1)).zip ds).any (fun p => decide (keyOf p.1 = some (g k))) = kvs.any (fun p => decide (p.1 = k))
  | [], _, _ => rfl
  | _ :: _, [], h => by simp at h
  | p :: kvs, d :: ds, h => by
    have ih := put_any f g hf hg k kvs ds (by simpa using h)
    rw [List.map_cons, List.zip_cons_cons, List.any_cons, List.any_cons, ih, hf]
    congr 1
    by_cases e : p.1 = k
    · rw [decide_eq_true e, e, decide_eq_true rfl]
    · rw [decide_eq_false e, decide_eq_false (fun z => e (hg _ _ (Option.some.inj z)))]
theorem put_map (f : κ → BV.D) (g : κ → Key ⊕ List Key) (hf : ∀ k, keyOf (f k) = some (g k)) (hg : ∀ a b, g a = g b → a = b) (k : κ) {v : V} {dv : BV.D} (rv : Rep K o H v dv) : ∀ (kvs : List (κ × V)) (ds : List BV.D), RepAll K o H (kvs.map (·.2)) ds →
    ∃ ds', RepAll K o H ((kvs.map fun p => if p.1 = k then (p.1, v) else p).map (·.2)) ds' ∧
      ((kvs.map (fun p => f p.1)).zip ds).map (fun p => if keyOf p.1 = some (g k) then (p.1, dv) else p) = ((kvs.map fun p => if p.1 = k then (p.1, v) else p).map (fun p => f p.1)).zip ds'
  | [], ds, r => by cases r; exact ⟨[], .nil, rfl⟩
  | p :: kvs, [], r => by cases r
  | p :: kvs, d :: ds, r => by
    cases r with
    | cons _ _ _ _ r1 r2 =>
      obtain ⟨ds', i1, i2⟩ := put_map f g hf hg k rv kvs ds r2
      by_cases e : p.1 = k
      · refine ⟨dv :: ds', ?_, ?_⟩
        · rw [List.map_cons, List.map_cons, if_pos e]
          exact .cons _ _ _ _ rv i1
        · rw [List.map_cons, List.zip_cons_cons, List.map_cons, i2, List.map_cons, List.map_cons, List.zip_cons_cons, if_pos e, if_pos (by rw [hf, e])]
      · refine ⟨d :: ds', ?_, ?_⟩
        · rw [List.map_cons, List.map_cons, if_neg e]
          exact .cons _ _ _ _ r1 i1
        · rw [List.map_cons, List.zip_cons_cons, List.map_cons, i2, List.map_cons, List.map_cons, List.zip_cons_cons, if_neg e, if_neg (by rw [hf]; exact fun z => e (hg _ _ (Option.some.inj z)))]
theorem put_rep (f : κ → BV.D) (g : κ → Key ⊕ List Key) (hf : ∀ k, keyOf (f k) = some (g k)) (hg : ∀ a b, g a = g b → a = b) (k : κ) {v : V} {dv : BV.D} (rv : Rep K o H v dv) (kvs : List (κ × V)) (ds : List BV.D) (r : RepAll K o H (kvs.map (·.2)) ds) :
    ∃ ds', RepAll K o H ((putK kvs k v).map (·.2)) ds' ∧ dput ((kvs.map (fun p => f p.1)).zip ds) (g k) (f k) dv = ((putK kvs k v).map (fun p => f p.1)).zip ds' ∧ (putK kvs k v).length ≤ kvs.length + 1 := by
  have hl : kvs.length = ds.length := by have := r.length; rw [List.length_map] at this; exact this
  unfold dput putK
  rw [put_any f g hf hg k kvs ds hl]
  by_cases h : (kvs.any fun p => decide (p.1 = k)) = true
  · rw [if_pos h, if_pos h]
    obtain ⟨ds', i1, i2⟩ := put_map f g hf hg k rv kvs ds r
    exact ⟨ds', i1, i2, by rw [List.length_map]; omega⟩
  · rw [if_neg h, if_neg h]
    refine ⟨ds ++ [dv], ?_, ?_, by rw [List.length_append]; exact Nat.le_refl _⟩
    · rw [List.map_append]
      exact r.append (.cons _ _ _ _ rv .nil)
    · rw [List.map_append, List.zip_append (by rw [List.length_map]; exact hl)]
      rfl
end
/-- d[k] = v on data -/
def dSet (q : Bool) (kvs : List (BV.D × BV.D)) (kd v : BV.D) : Option (List (BV.D × BV.D)) := match keyOf kd with
  | some k => if (fits q k || (q && fitsT k)) = true ∧ kvs.length < sizeLine then some (dput kvs k kd v) else none
  | none => none
/-- what stands in a dict that is owned -/
def DHas (K : PySem.W.Frag) (o : Gh) (H : Hp) (a : Addr) (q : Bool) (kvs : List (BV.D × BV.D)) : Prop := ∃ ks vs ds, DAtW K q H a ks vs ∧ vs.length ≤ sizeLine ∧ ks.length = vs.length ∧ RepAll K o H vs ds ∧ kvs = ks.zip ds
/-- a dict whose keys are tuples -/
def rSetX (K : PySem.W.Frag) : TSet := fun o i v H Q => ∃ (a : Addr) (kvs : List (List Int × V)) (xs : List (List Int × Addr × Value)) (b : Addr) (k : List Int), o = .ref a ∧ H a = some (.ext (tdf a xs)) ∧ KX K H kvs xs ∧ xs.length ≤ sizeLine ∧ i = .ref b ∧ SqT K H b (k.map V.int) ∧ ∀ r, RelV v r → Q (upd H a (.ext (tdf a (storedH xs k b r))))
theorem set_x {X : Cx} (hu : X.A.units + 1 < cLine) : PSet X (rSetX X.K) := by
  intro pins s σ H o i v ov iv u Q I ro ri rv q
  obtain ⟨a, kvs, xs, b, k, rfl, e, kx, hl, rfl, eb, q⟩ := q
  cases (show ov = Value.ref a from ro)
  cases (show iv = Value.ref b from ri)
  exact x_set hu I e kx hl eb rv fun s' I' => ⟨_, I', q u rv⟩
def rSetLD (K : PySem.W.Frag) : TSet := fun o i v H Q => rSetL o i v H Q ∨ (rSetD o i v H Q ∨ rSetX K o i v H Q)
theorem dSet_rep {K : PySem.W.Frag} {a : Addr} {q : Bool} {kvs kvs' : List (BV.D × BV.D)} {kd dv : BV.D} {y v : V} (h : DHas K o H a q kvs) (no : o a ≠ none) (tr : Trk o H) (ry : RepU K o H y kd) (rv : Rep K o H v dv) (e : dSet q kvs kd dv = some kvs') (Q : Hp → Prop) (hQ : ∀ u, Ownable u → DHas K o (upd H a u) a q kvs' → Q (upd H a u)) :
    rSetLD K (.ref a) y v H Q := by
  obtain ⟨ks, vs, ds, hd, hz, hl, ra, rfl⟩ := h
  unfold dSet at e
  cases ek : keyOf kd with
  | none => rw [ek] at e; cases e
  | some k =>
    rw [ek] at e
    dsimp only at e
    split at e
    · rename_i hc
      cases e
      obtain ⟨hft, hlen⟩ := hc
      cases q with
      | false =>
        cases k with
        | inr k => cases hft
        | inl k =>
          obtain ⟨es, hH, rfl, rfl⟩ := hd
          have ey : kd = keyD k := keyOf_inl ek
          have ev : y = kV k := keyV ry ey
          subst ey
          obtain ⟨ds', i1, i2, i3⟩ := put_rep (fun k => keyD k) (fun k => .inl k) keyOf_key (fun a b h => Sum.inl.inj h) k rv es ds ra
          have hn : es.length < sizeLine := by
            have e1 := ra.length
            rw [List.length_map] at e1
            rw [List.length_zip, List.length_map, ← e1, Nat.min_self] at hlen
            exact hlen
          refine .inr (.inl ⟨a, _, rfl, .inl ⟨es, k, hH, ev, hn, rfl⟩, hQ (.dK (putK es k v)) trivial ⟨_, _, ds', ⟨_, upd_same, rfl, rfl⟩, by rw [List.length_map]; omega, by rw [List.length_map, List.length_map], i1.kept tr (write_kept no), ?_⟩⟩)
          exact i2
      | true =>
        have hft' : fitsT k = true := by
          cases k with
          | inl k => exact hft
          | inr k => exact hft
        obtain ⟨ns, rfl⟩ := fitsT_ints hft'
        obtain ⟨es, xs, hH, kx, hs, rfl, rfl⟩ := hd
        have ey := keyOf_kInts ek
        subst ey
        obtain ⟨b, us, rfl, sb, _, rb⟩ := ry.tupV
        have eu : us = ns.map V.int := ints_rep rb
        subst eu
        obtain ⟨ds', i1, i2, i3⟩ := put_rep (fun k => .tuple (k.map PyData.int)) kInts keyOf_ints kInts_inj ns rv es ds ra
        have hn : es.length < sizeLine := by
          have e1 := ra.length
          rw [List.length_map] at e1
          rw [List.length_zip, List.length_map, ← e1, Nat.min_self] at hlen
          exact hlen
        have hx : xs.length ≤ sizeLine := by rw [← Paired.length kx]; omega
        refine .inr (.inr ⟨a, es, xs, b, ns, rfl, hH, kx, hx, rfl, sb, fun r rr => hQ _ trivial ⟨_, _, ds', ⟨putK es ns v, storedH xs ns b r, upd_same, (kx.put ns sb rr).kept (fun c us z => SqT.kept tr (write_kept no) z), hs, rfl, rfl⟩, by rw [List.length_map]; omega, by rw [List.length_map, List.length_map], i1.kept tr (write_kept no), ?_⟩⟩)
        exact i2
    · cases e
theorem RS.owndAt {K : PySem.W.Frag} {S : Sto} {i : Nat} {q : Bool} {kvs : List (BV.D × BV.D)} (rs : RS K o c ρ S σ H) (e : ρ[i]? = some (some (.ownd q kvs))) : ∃ a, σ[i]? = some (some (.ref a)) ∧ o a = some (.slot i) ∧ DHas K o H a q kvs := by
  obtain ⟨v, e1, a, ks, vs, ds, rfl, h1, h2, h3, h4, h5, h6⟩ := rs.slot i _ e
  exact ⟨a, e1, h1, ks, vs, ds, h2, h3, h4, h5, h6⟩

/-! ### x[i] = e -/
variable {f1 f2 : SE} {i : Nat} {x : Str} {xp tp : Pos}
theorem PSet.or {X : Cx} {r r' : TSet} (h : PSet X r) (h' : PSet X r') : PSet X (fun o i v H Q => r o i v H Q ∨ r' o i v H Q) := by
  intro pins s σ H o i v ov iv u Q I ro ri rv q
  rcases q with q | q
  · exact h pins s σ H o i v ov iv u Q I ro ri rv q
  · exact h' pins s σ H o i v ov iv u Q I ro ri rv q
theorem set_ld {X : Cx} (hu : X.A.units + 1 < cLine) : PSet X (rSetLD X.K) := PSet.or set_list (PSet.or (set_dict hu) (set_x hu))
def sSet (i : Nat) (fi fv : SE) : SS := sE fv fun t ρ S => match asD t with
  | none => .bad
  | some d => match ρ[i]? with
    | some (some (.own xs)) => sD fi (fun di ρ S => match di with
      | .int j => (match ixN xs.length j with | some k => .nx (ρ.set i (some (.own (xs.set k d)))) S | none => .bad)
      | _ => .bad) ρ S
    | some (some (.ownd q kvs)) => sD fi (fun di ρ S => match dSet q kvs di d with
      | some kvs' => .nx (ρ.set i (some (.ownd q kvs'))) S
      | none => .bad) ρ S
    | _ => .bad
theorem sv_set (i : Nat) (h1 : EV G e f1) (h2 : UV G b f2) (hN : G.N[i]? = some x := by rfl) (hv : Vis G.sc x := by first | exact Or.inl rfl | exact Or.inr (Or.inl rfl) | exact Or.inr (Or.inr rfl)) (hd : (x == ("__debug__" : Str)) = false := by decide) (hcd : (x == ("__classdict__" : Str)) = false := by decide)
    (ha : ∀ (env : PySem.Env) v, assign (.Subscript (.Name x xp) b tp) env v = (do
      let ov ← holding [v] (eval (.Name x xp) env)
      let iv ← holding [v, ov] (eval b env)
      standAt tp
      holding [v, ov, iv] (setItem ov iv v)
      release [v, ov, iv] []) := by intro _ _; rfl)
    (hs : ∀ env : PySem.Env, env.scope = G.sc → swapsWithSole [.Subscript (.Name x xp) b tp] e pos.line env = pure false := by intro _ _; rfl) (hw : ∀ env : PySem.Env, swappedStores [.Subscript (.Name x xp) b tp] e env = pure none := by intro _; rfl)
    (h3 : ∀ env : PySem.Env, (assignEach [.Subscript (.Name x xp) b tp] env).map (·.2) = [assign (.Subscript (.Name x xp) b tp) env] := by intro _; rfl) : SV G (.Assign [.Subscript (.Name x xp) b tp] e pos) (sSet i f2 f1) := by
  obtain ⟨t1, p1, q1⟩ := h1
  obtain ⟨t2, p2, q2⟩ := h2
  refine ⟨fun W => tAsg (t1 W) (L2.gSub (tVar i) (t2 W) (rSetLD G.K)), fun X W k => ps_asg (p1 X W k) (pg_sub (pe_var (pos := xp) (k.at hN) (k.vis hv) hd hcd) (p2 X W k) (by have := set_ld (X := X) (by have := k.units; omega); rw [k.K] at this; exact this) (ha _)) (hs _ k.sc) (hw _) (h3 _), fun W σ H ρ S o c D nt rs ps => ?_⟩
  refine (q1 W).s nt rs ps fun t S1 v o1 c1 H1 s1 rs1 r1 p1 => ?_
  cases e1 : asD t with
  | none => simp only [e1] at p1; exact p1.elim
  | some d =>
    simp only [e1] at p1
    split at p1
    rotate_left
    · rename_i q kvs e2
      have rd := r1.toD rs1.cs.trk e1
      have rs2 := rs1.untmp
      have nt2 : NT (unT o1) := unT_nt
      have st : Step isVol o1 c1 H1 (unT o1) c1 H1 := ⟨fun a u e _ => e, fun a w e n => dropO_some e (by cases w <;> first | rfl | exact absurd trivial n), fun a e n => absurd (dropO_none e) n, List.prefix_refl c1⟩
      have p2 := PostS.step st p1
      obtain ⟨a, ev, ho, hh⟩ := rs2.owndAt e2
      refine ⟨_, ev, (q2 W).s nt2 rs2 p2 fun di S3 iv o3 c3 H3 s3 nt3 rs3 ri p3 => ?_⟩
      have rd3 := rd.step rs2.cs.trk s3
      obtain ⟨a', ev', ho', hh'⟩ := rs3.owndAt e2
      rw [ev] at ev'
      cases ev'
      cases e4 : dSet q kvs di d with
      | none => simp only [e4] at p3; exact p3.elim
      | some kvs' =>
        simp only [e4] at p3
        exact dSet_rep hh' (by rw [ho']; simp) rs3.cs.trk ri rd3 e4 _ fun u ou ⟨ks, vs, ds, h2, h3, h4, h5, h6⟩ => p3 σ o3 c3 _ (write_step ho') nt3 (rs3.change ho' ou ev ⟨a, ks, vs, ds, rfl, ho', h2, h3, h4, h5, h6⟩)
    · exact p1.elim
    · rename_i xs e2
      · skip
        have rd := r1.toD rs1.cs.trk e1
        have rs2 := rs1.untmp
        have nt2 : NT (unT o1) := unT_nt
        have st : Step isVol o1 c1 H1 (unT o1) c1 H1 := ⟨fun a u e _ => e, fun a w e n => dropO_some e (by cases w <;> first | rfl | exact absurd trivial n), fun a e n => absurd (dropO_none e) n, List.prefix_refl c1⟩
        have p2 := PostS.step st p1
        obtain ⟨a, vs, ev, ho, hH, hz, ra⟩ := rs2.ownAt e2
        refine ⟨_, ev, (q2 W).s nt2 rs2 p2 fun di S3 iv o3 c3 H3 s3 nt3 rs3 ri p3 => ?_⟩
        have rd3 := rd.step rs2.cs.trk s3
        obtain ⟨a', vs', ev', ho', hH', hz', ra'⟩ := rs3.ownAt e2
        rw [ev] at ev'
        cases ev'
        cases di with
        | int j =>
          cases e4 : ixN xs.length j with
          | none => simp only [e4] at p3; exact p3.elim
          | some kk =>
            simp only [e4] at p3
            refine .inl ⟨a, vs', j, kk, rfl, ri.intV, hH', by rw [ra'.length]; exact e4, ?_⟩
            obtain ⟨s4, rs4⟩ := upd_slot (d := d) (v := v) (xs := xs) rs3 ho' ev (RepAll.set rd3 kk ra') (by rw [List.length_set]; exact hz')
            exact p3 σ o3 c3 _ s4 nt3 rs4
        | _ => exact p3.elim

/-! ### a cell is written -/
theorem cell_writeG {K : PySem.W.Frag} {n : Nat} {ca : Addr} {u : HO} {ce : Ce} (rs : RS K o c ρ S σ H) (h : o ca = some (.cell n)) (hc : c[n]? = some ca) (ou : Ownable u) (r : CellR K o (upd H ca u) n ca ce) :
    Step isCell o c H o c (upd H ca u) ∧ RS K o c ρ (S.set n ce) σ (upd H ca u) := by
  have st : Step isCell o c H o c (upd H ca u) := ⟨fun b x e m => by rw [upd_ne (fun z => m (.cell n) (by rw [z]; exact h) trivial)]; exact e, fun _ _ e _ => e, fun _ e m => absurd e m, List.prefix_refl c⟩
  have kw : Kept o H o (upd H ca u) := write_kept (by rw [h]; simp)
  refine ⟨st, rs.step st ⟨by rw [List.length_set]; exact rs.cs.clen, fun m b k e1 e2 => ?_, fun b hb => ?_⟩⟩
  · by_cases q : m = n
    · subst q
      rw [hc] at e1
      cases e1
      have hl := (List.getElem?_eq_some_iff.mp hc).1
      rw [List.getElem?_set_self (by rw [← rs.cs.clen]; exact hl)] at e2
      cases e2
      exact r
    · rw [List.getElem?_set_ne (Ne.symm q)] at e2
      exact (rs.cs.cell m b k e1 e2).kept rs.cs.trk kw fun b q1 => ⟨q1, fun x hx => by
        rw [upd_ne (fun z => by rw [z, h] at q1; cases q1; exact q rfl)]
        exact hx⟩
  · by_cases z : b = ca
    · subst z; exact ⟨_, upd_same, ou⟩
    · obtain ⟨x, e, q⟩ := rs.cs.trk b hb
      exact ⟨x, by rw [upd_ne z]; exact e, q⟩
theorem cell_write {K : PySem.W.Frag} {n : Nat} {ca : Addr} {xs' : List BV.D} {vs' : List V} {d : BV.D} {w : V} (rs : RS K o c ρ S σ H) (h : o ca = some (.cell n)) (hc : c[n]? = some ca) (r : RepAll K o H vs' xs') (z : vs'.length ≤ sizeLine) :
    Step isCell o c H o c (upd H ca (.lst vs')) ∧ RS K o c ρ (S.set n (.lst xs')) σ (upd H ca (.lst vs')) :=
  cell_writeG rs h hc trivial ⟨h, vs', upd_same, z, r.kept rs.cs.trk (write_kept (by rw [h]; simp))⟩
def sSetC (i : Nat) (fi fv : SE) : SS := sE fv fun t ρ S => match asD t with
  | none => .bad
  | some d => match ρ[i]? with
    | some (some (.cel n)) => sD fi (fun di ρ S => match S[n]? with
      | some (.lst xs) => (match di with
        | .int j => (match ixN xs.length j with | some k => .nx ρ (S.set n (.lst (xs.set k d))) | none => .bad)
        | _ => .bad)
      | some (.dct q kvs) => (match dSet q kvs di d with | some kvs' => .nx ρ (S.set n (.dct q kvs')) | none => .bad)
      | _ => .bad) ρ S
    | _ => .bad
theorem sv_setC (i : Nat) (h1 : EV G e f1) (h2 : UV G b f2) (hN : G.N[i]? = some x := by rfl) (hv : Vis G.sc x := by first | exact Or.inl rfl | exact Or.inr (Or.inl rfl) | exact Or.inr (Or.inr rfl)) (hd : (x == ("__debug__" : Str)) = false := by decide) (hcd : (x == ("__classdict__" : Str)) = false := by decide)
    (ha : ∀ (env : PySem.Env) v, assign (.Subscript (.Name x xp) b tp) env v = (do
      let ov ← holding [v] (eval (.Name x xp) env)
      let iv ← holding [v, ov] (eval b env)
      standAt tp
      holding [v, ov, iv] (setItem ov iv v)
      release [v, ov, iv] []) := by intro _ _; rfl)
    (hs : ∀ env : PySem.Env, env.scope = G.sc → swapsWithSole [.Subscript (.Name x xp) b tp] e pos.line env = pure false := by intro _ _; rfl) (hw : ∀ env : PySem.Env, swappedStores [.Subscript (.Name x xp) b tp] e env = pure none := by intro _; rfl)
    (h3 : ∀ env : PySem.Env, (assignEach [.Subscript (.Name x xp) b tp] env).map (·.2) = [assign (.Subscript (.Name x xp) b tp) env] := by intro _; rfl) : SV G (.Assign [.Subscript (.Name x xp) b tp] e pos) (sSetC i f2 f1) := by
  obtain ⟨t1, p1, q1⟩ := h1
  obtain ⟨t2, p2, q2⟩ := h2
  refine ⟨fun W => tAsg (t1 W) (L2.gSub (tVar i) (t2 W) (rSetLD G.K)), fun X W k => ps_asg (p1 X W k) (pg_sub (pe_var (pos := xp) (k.at hN) (k.vis hv) hd hcd) (p2 X W k) (by have := set_ld (X := X) (by have := k.units; omega); rw [k.K] at this; exact this) (ha _)) (hs _ k.sc) (hw _) (h3 _), fun W σ H ρ S o c D nt rs ps => ?_⟩
  refine (q1 W).s nt rs ps fun t S1 v o1 c1 H1 s1 rs1 r1 p1 => ?_
  cases e1 : asD t with
  | none => simp only [e1] at p1; exact p1.elim
  | some d =>
    simp only [e1] at p1
    split at p1
    rotate_left
    · exact p1.elim
    · rename_i n e2
      · skip
        have rd := r1.toD rs1.cs.trk e1
        have rs2 := rs1.untmp
        have nt2 : NT (unT o1) := unT_nt
        have st : Step isVol o1 c1 H1 (unT o1) c1 H1 := ⟨fun a u e _ => e, fun a w e n => dropO_some e (by cases w <;> first | rfl | exact absurd trivial n), fun a e n => absurd (dropO_none e) n, List.prefix_refl c1⟩
        have p2 := PostS.step st p1
        obtain ⟨cv, ev, ca, hca, rfl⟩ := rs2.slot i _ e2
        refine ⟨_, ev, (q2 W).s nt2 rs2 p2 fun di S3 iv o3 c3 H3 s3 nt3 rs3 ri p3 => ?_⟩
        have rd3 := rd.step rs2.cs.trk s3
        have hc3 := pre_get s3.pre hca
        cases e5 : S3[n]? with
        | none => simp only [e5] at p3; exact p3.elim
        | some k0 =>
          cases k0 with
          | dead => simp only [e5] at p3; exact p3.elim
          | tab => simp only [e5] at p3; exact p3.elim
          | dct q kvs =>
            simp only [e5] at p3
            cases e4 : dSet q kvs di d with
            | none => simp only [e4] at p3; exact p3.elim
            | some kvs' =>
              simp only [e4] at p3
              obtain ⟨ho3, hh⟩ := rs3.cs.cell n ca _ hc3 e5
              refine dSet_rep hh (by rw [ho3]; simp) rs3.cs.trk ri rd3 e4 _ fun u ou hh' => ?_
              obtain ⟨s4, rs4⟩ := cell_writeG (ce := .dct q kvs') rs3 ho3 hc3 ou ⟨ho3, hh'⟩
              exact p3 σ o3 c3 _ s4.weak nt3 rs4
          | lst xs =>
            simp only [e5] at p3
            cases di with
            | int j =>
              dsimp only at p3
              cases e4 : ixN xs.length j with
              | none => simp only [e4] at p3; exact p3.elim
              | some kk =>
                simp only [e4] at p3
                obtain ⟨ho3, vs', hH', hz', ra'⟩ := rs3.cs.cell n ca _ hc3 e5
                refine .inl ⟨ca, vs', j, kk, rfl, ri.intV, hH', by rw [ra'.length]; exact e4, ?_⟩
                obtain ⟨s4, rs4⟩ := cell_write (d := d) (w := v) rs3 ho3 hc3 (RepAll.set rd3 kk ra') (by rw [List.length_set]; exact hz')
                exact p3 σ o3 c3 _ s4.weak nt3 rs4
            | _ => exact p3.elim

/-! ### a new list becomes a cell -/
def cellAt (o : Gh) (a : Addr) (n : Nat) : Gh := fun b => if b = a then some (.cell n) else o b
/-- a new list, a new dict becomes a cell -/
def toCe : T → Option Ce
  | .own xs => some (.lst xs)
  | .ownd q kvs => some (.dct q kvs)
  | _ => none
theorem promote {K : PySem.W.Frag} {v0 : V} {t0 : T} {k0 : Ce} (rs1 : RS K o1 c1 ρ S1 σ H1) (r0 : RepT K o1 c1 H1 .tmp v0 t0) (hk : toCe t0 = some k0) :
    ∃ a, v0 = .ref a ∧ o1 a = some .tmp ∧ RS K (cellAt (unT o1) a S1.length) (c1 ++ [a]) ρ (S1 ++ [k0]) σ H1 := by
  have hex : ∃ a, v0 = .ref a ∧ o1 a = some .tmp ∧ (∃ u, H1 a = some u ∧ Ownable u) ∧ ∀ o2, o2 a = some (.cell S1.length) → Kept o1 H1 o2 H1 → CellR K o2 H1 S1.length a k0 := by
    cases t0 with
    | own xs =>
      cases hk
      obtain ⟨a, vs, e, ho, hH, hz, ra⟩ := r0
      exact ⟨a, e, ho, ⟨_, hH, trivial⟩, fun o2 h2 kp => ⟨h2, vs, hH, hz, ra.kept rs1.cs.trk kp⟩⟩
    | ownd q kvs =>
      cases hk
      obtain ⟨a, ks, vs, ds, e, ho, hd, hz, hl, ra, e2⟩ := r0
      refine ⟨a, e, ho, ?_, fun o2 h2 kp => ⟨h2, ks, vs, ds, hd, hz, hl, ra.kept rs1.cs.trk kp, e2⟩⟩
      cases q with
      | false =>
        obtain ⟨es, h, _⟩ := hd
        exact ⟨_, h, trivial⟩
      | true =>
        obtain ⟨es, xs, h, _⟩ := hd
        exact ⟨_, h, trivial⟩
    | _ => cases hk
  obtain ⟨a, ev, ho, hu, hC⟩ := hex
  refine ⟨a, ev, ho, ?_⟩
  have rs2 := rs1.untmp
  have tr2 : Trk (cellAt (unT o1) a S1.length) H1 := fun b hb => by
    by_cases z : b = a
    · subst z; exact hu
    · exact rs2.cs.trk b (by unfold cellAt at hb; rw [if_neg z] at hb; exact hb)
  -- what is data does not have the list at a: it was owned
  have kp : Kept o1 H1 (cellAt (unT o1) a S1.length) H1 := fun b u e n => ⟨e, by
    unfold cellAt
    rw [if_neg (fun z => by rw [z, ho] at n; cases n)]
    exact dropO_none n⟩
  have kpR : ∀ {w : Ow} {v' : V} {t' : T}, (∀ b, o1 b = some w → b ≠ a ∧ isTmp w = false) → RepT K o1 c1 H1 w v' t' → RepT K (cellAt (unT o1) a S1.length) (c1 ++ [a]) H1 w v' t' := by
    intro w v' t' hw r
    have cw : ∀ b, o1 b = some w → cellAt (unT o1) a S1.length b = some w := fun b e => by
      unfold cellAt
      rw [if_neg (hw b e).1]
      exact dropO_some e (hw b e).2
    cases t' with
    | val d => exact Rep.kept rs1.cs.trk kp r
    | own xs =>
      obtain ⟨x, vs, e, q, h, z, ra⟩ := r
      exact ⟨x, vs, e, cw _ q, h, z, ra.kept rs1.cs.trk kp⟩
    | own2 xss =>
      obtain ⟨x, as, e, q, h, nd, z, le, f⟩ := r
      refine ⟨x, as, e, cw _ q, h, nd, z, le, fun i b xs e1 e2 => ?_⟩
      obtain ⟨q', vs, h', z', ra⟩ := f i b xs e1 e2
      exact ⟨cw _ q', vs, h', z', ra.kept rs1.cs.trk kp⟩
    | ownd tk kvs =>
      obtain ⟨x, ks, vs, ds, e, q, h, z, z2, ra, e'⟩ := r
      exact ⟨x, ks, vs, ds, e, cw _ q, h, z, z2, ra.kept rs1.cs.trk kp, e'⟩
    | cel n =>
      obtain ⟨x, e, q⟩ := r
      exact ⟨x, by rw [List.getElem?_append_left (List.getElem?_eq_some_iff.mp e).1]; exact e, q⟩
    | scr ns =>
      obtain ⟨x, e, z, h⟩ := r
      refine ⟨x, e, z, ?_⟩
      rcases h with h | ⟨h, n⟩ | h
      · exact .inl h
      · exact .inr (.inl ⟨h, (kp x _ h n).2⟩)
      · exact .inr (.inr h)
    | exn _ _ _ _ => exact r
    | tree d =>
      obtain ⟨as, r, nd⟩ := r
      exact ⟨as, r.move (fun x u e q => ⟨e, cw _ q⟩) (fun b us z => SqT.kept rs1.cs.trk kp z), nd⟩
  have cs3 : CS K (cellAt (unT o1) a S1.length) (c1 ++ [a]) (S1 ++ [k0]) H1 := by
    refine ⟨by rw [List.length_append, List.length_append, rs1.cs.clen]; rfl, fun n b k e1 e2 => ?_, tr2⟩
    by_cases hl : n < S1.length
    · rw [List.getElem?_append_left (by rw [rs1.cs.clen]; exact hl)] at e1
      rw [List.getElem?_append_left hl] at e2
      exact (rs1.cs.cell n b k e1 e2).kept rs1.cs.trk kp fun b q1 => ⟨by
        unfold cellAt
        rw [if_neg (fun z => by rw [z, ho] at q1; cases q1)]
        exact dropO_some q1 rfl, fun u hu => hu⟩
    · have hn : n = S1.length := by
        have := (List.getElem?_eq_some_iff.mp e2).1
        rw [List.length_append] at this
        simp at this
        omega
      subst hn
      rw [List.getElem?_append_right (by rw [rs1.cs.clen]; exact Nat.le_refl _), rs1.cs.clen, Nat.sub_self] at e1
      rw [List.getElem?_append_right (Nat.le_refl _), Nat.sub_self] at e2
      simp only [List.getElem?_cons_zero, Option.some.injEq] at e1 e2
      subst e1 e2
      exact hC _ (by unfold cellAt; rw [if_pos rfl]) kp
  exact ⟨rs1.len, fun j t' e => by
    obtain ⟨v', e1, r'⟩ := rs1.slot j t' e
    exact ⟨v', e1, kpR (w := .slot j) (fun b hb => ⟨(fun z => by rw [z, ho] at hb; cases hb), rfl⟩) r'⟩, cs3⟩
def cCel (f : SE) : SE := fun ρ S => match f ρ S with
  | .ok t S1 => (match toCe t with | some k => .ok (.cel S1.length) (S1 ++ [k]) | none => .bad)
  | .exc e S1 => .exc e S1
  | .bad => .bad
theorem ev_cel (h : EV G e f) : EV G e (cCel f) := by
  obtain ⟨t, pp, q⟩ := h
  refine ⟨t, pp, fun W σ H ρ S o c Q nt rs p => ?_⟩
  refine q W σ H ρ S o c Q nt rs ?_
  unfold cCel at p
  cases e1 : f ρ S with
  | bad => rw [e1] at p; exact p
  | exc e' S' => rw [e1] at p; exact p
  | ok t0 S1 =>
    rw [e1] at p
    cases ek : toCe t0 with
    | none => simp only [ek] at p; exact p.elim
    | some k0 =>
      simp only [ek] at p
      intro v o' c' H' s rs' r'
      obtain ⟨a, rfl, ho, rsP⟩ := promote rs' r' ek
      refine p (.ref a) (cellAt (unT o') a S1.length) (c' ++ [a]) H' ⟨s.keep, fun b w e n => ?_, fun b e n => ?_, s.pre.trans ⟨[a], rfl⟩⟩ rsP ⟨a, ?_, rfl⟩
      · have h := s.own b w e n
        unfold cellAt
        rw [if_neg (fun z => by rw [z, ho] at h; cases h; exact nt b e)]
        exact dropO_some h (by cases w <;> first | rfl | exact absurd e (nt b))
      · by_cases z : b = a
        · rw [z] at e ⊢
          exact s.new a e (by rw [ho]; simp)
        · unfold cellAt at n
          rw [if_neg z] at n
          exact s.new b e (dropO_ne n)
      · rw [← rs'.cs.clen, List.getElem?_append_right (Nat.le_refl _), Nat.sub_self]
        rfl
/-- name = e, e's new list a cell from here on -/
def sAsgC (i : Nat) (f : SE) : SS := sAsg i (cCel f)
theorem sv_asgC (i : Nat) {pos' : Pos} (h : EV G e f) (hN : G.N[i]? = some x := by rfl) (hx : Loc G.sc x := by first | exact Or.inl rfl | exact Or.inr rfl) (nd : G.N.Nodup := by (try dsimp only [Cc.blk]); decide +kernel)
    (hs : ∀ env : PySem.Env, env.scope = G.sc → swapsWith e (some (.Name x pos')) pos.line env = pure false := by intro _ _; rfl) (hf : G.fn x = true ∨ G.sc.names.lookup x = some .local := by first | exact Or.inl rfl | exact Or.inr rfl) : SV G (.Assign [.Name x pos'] e pos) (sAsgC i f) :=
  sv_asg i (ev_cel h) hN hx nd hs hf
/-! ### name op= e, whole numbers -/
def sAug (i : Nat) (g : Int → Int → Int) (f : SE) : SS := fun ρ S => match ρ[i]? with
  | some (some (.val (.int a))) => sD f (fun d ρ S => match d with | .int b => .nx (ρ.set i (some (.val (.int (g a b))))) S | _ => .bad) ρ S
  | _ => .bad
theorem sv_augI (i : Nat) {pos' : Pos} {op : Operator} {g : Int → Int → Int} (ho : ∀ X, PIp X op (ipI g)) (h : UV G e f) (hN : G.N[i]? = some x := by rfl) (hx : Loc G.sc x := by first | exact Or.inl rfl | exact Or.inr rfl) (nd : G.N.Nodup := by (try dsimp only [Cc.blk]); decide +kernel)
    (hf : G.fn x = true ∨ G.sc.names.lookup x = some .local := by first | exact Or.inl rfl | exact Or.inr rfl) : SV G (.AugAssign (.Name x pos') op e pos) (sAug i g f) := by
  obtain ⟨t, p, q⟩ := h
  refine ⟨fun W => tAug i (t W) (ipI g), fun X W k => ps_aug (k.nd nd) (k.at hN) (k.loc hx) (p X W k) (ho X) (k.hf hf), fun W σ H ρ S o c D nt rs ps => ?_⟩
  unfold sAug at ps
  split at ps
  · rename_i a e1
    obtain ⟨v, ev, r⟩ := rs.slot i _ e1
    refine ⟨v, ev, (q W).s nt rs ps fun d S1 w o1 c1 H1 s1 nt1 rs1 r1 p1 => ?_⟩
    cases d with
    | int b => exact ⟨a, b, (show Rep G.K o H v (.int a) from r).intV, r1.intV, p1 _ o1 c1 H1 Step.refl nt1 (rs1.putV (.int _))⟩
    | _ => exact p1.elim
  · exact ps.elim
theorem sv_aug (i : Nat) {pos' : Pos} (h : UV G e f) (hN : G.N[i]? = some x := by rfl) (hx : Loc G.sc x := by first | exact Or.inl rfl | exact Or.inr rfl) (nd : G.N.Nodup := by (try dsimp only [Cc.blk]); decide +kernel)
    (hf : G.fn x = true ∨ G.sc.names.lookup x = some .local := by first | exact Or.inl rfl | exact Or.inr rfl) : SV G (.AugAssign (.Name x pos') .Add e pos) (sAug i (fun a b => a + b) f) := sv_augI i (fun X => ip_add) h hN hx nd hf
theorem sv_augSub (i : Nat) {pos' : Pos} (h : UV G e f) (hN : G.N[i]? = some x := by rfl) (hx : Loc G.sc x := by first | exact Or.inl rfl | exact Or.inr rfl) (nd : G.N.Nodup := by (try dsimp only [Cc.blk]); decide +kernel)
    (hf : G.fn x = true ∨ G.sc.names.lookup x = some .local := by first | exact Or.inl rfl | exact Or.inr rfl) : SV G (.AugAssign (.Name x pos') .Sub e pos) (sAug i (fun a b => a - b) f) := sv_augI i (fun X => ip_sub) h hN hx nd hf
end
end BV
/-! The by-value calculus: own lists of own lists. -/
namespace BV
open PySem L2

theorem nodup_at {α : Type} : ∀ {as : List α} {k j : Nat} {b : α}, as.Nodup → as[k]? = some b → as[j]? = some b → k = j
  | [], _, _, _, _, e, _ => by simp at e
  | a :: as, 0, 0, _, _, _, _ => rfl
  | a :: as, 0, j + 1, b, n, e1, e2 => by
    simp at e1 e2
    subst e1
    exact absurd (List.mem_of_getElem? e2) (List.nodup_cons.mp n).1
  | a :: as, k + 1, 0, b, n, e1, e2 => by
    simp at e1 e2
    subst e2
    exact absurd (List.mem_of_getElem? e1) (List.nodup_cons.mp n).1
  | a :: as, k + 1, j + 1, b, n, e1, e2 => by
    have := nodup_at (k := k) (j := j) (b := b) (List.nodup_cons.mp n).2 (by simpa using e1) (by simpa using e2)
    rw [this]

section
variable {G : Cc} {W : WX} {o o1 o2 : Gh} {c c1 c2 : Cs} {ρ : En} {σ : L2.St} {H H1 H2 : Hp} {S S1 : Sto} {pos p : Pos} {a b e : Expr} {f f1 f2 f3 : SE} {t : T} {v : V} {i : Nat} {x : Str} {xp tp up : Pos}
/-! ### a row is written -/
theorem own2_row {K : PySem.W.Frag} {xss : List (List BV.D)} {j : Nat} {xs : List BV.D} (rs : RS K o c ρ S σ H) (e : ρ[i]? = some (some (.own2 xss))) (hx : xss[j]? = some xs) :
    ∃ (a : Addr) (as : List Addr) (b : Addr) (vs : List V), σ[i]? = some (some (.ref a)) ∧ H a = some (.lst (as.map V.ref)) ∧ as.length = xss.length ∧ as[j]? = some b ∧ o b = some (.slot i) ∧ H b = some (.lst vs) ∧ vs.length ≤ sizeLine ∧ RepAll K o H vs xs ∧
      ∀ vs' xs', vs'.length ≤ sizeLine → RepAll K o H vs' xs' → Step isVol o c H o c (upd H b (.lst vs')) ∧ RS K o c (ρ.set i (some (.own2 (xss.set j xs')))) S σ (upd H b (.lst vs')) := by
  obtain ⟨v, ev, a, as, rfl, q, h, nd, z, le, f⟩ := rs.slot i _ e
  have hj : j < as.length := by rw [le]; exact (List.getElem?_eq_some_iff.mp hx).1
  have hb : as[j]? = some as[j] := List.getElem?_eq_getElem hj
  obtain ⟨qb, vs, hv, zv, rv⟩ := f j _ xs hb hx
  refine ⟨a, as, as[j], vs, ev, h, le, hb, qb, hv, zv, rv, fun vs' xs' z' r' => ?_⟩
  have nda : a ∉ as := (List.nodup_cons.mp nd).1
  have nds : as.Nodup := (List.nodup_cons.mp nd).2
  have ne : a ≠ as[j] := fun z => nda (by rw [z]; exact List.getElem_mem hj)
  have kw : Kept o H o (upd H as[j] (.lst vs')) := write_kept (by rw [qb]; simp)
  refine ⟨write_step qb, rs.change qb trivial ev ⟨a, as, rfl, q, by rw [upd_ne ne]; exact h, nd, z, by rw [List.length_set]; exact le, fun k b' xs'' e1 e2 => ?_⟩⟩
  by_cases hk : k = j
  · subst hk
    rw [hb] at e1
    cases e1
    rw [List.getElem?_set_self (by rw [← le]; exact hj)] at e2
    cases e2
    exact ⟨qb, vs', upd_same, z', r'.kept rs.cs.trk kw⟩
  · rw [List.getElem?_set_ne (Ne.symm hk)] at e2
    obtain ⟨q1, ws, h1, z1, r1⟩ := f k b' xs'' e1 e2
    have hk2 := (List.getElem?_eq_some_iff.mp e1)
    obtain ⟨hkl, hke⟩ := hk2
    refine ⟨q1, ws, ?_, z1, r1.kept rs.cs.trk kw⟩
    rw [upd_ne (fun z => hk (nodup_at nds e1 (by rw [z]; exact hb)))]
    exact h1

/-! ### x[i], an operand -/
def cIx2 (i : Nat) (f : SE) : SE := fun ρ S => match ρ[i]? with
  | some (some (.own2 xss)) => R.d (f ρ S) fun d S1 => (match d with | .int j => (match atI xss j with | some xs => .ok (.own xs) S1 | none => .bad) | _ => .bad)
  | _ => .bad
theorem own2_ix {K : PySem.W.Frag} {xss : List (List BV.D)} {j : Int} {xs : List BV.D} (rs : RS K o c ρ S σ H) (e : ρ[i]? = some (some (.own2 xss))) (hx : atI xss j = some xs) :
    ∃ (a : Addr) (as : List Addr) (b : Addr) (vs : List V) (k : Nat), σ[i]? = some (some (.ref a)) ∧ H a = some (.lst (as.map V.ref)) ∧ atI (as.map V.ref) j = some (.ref b) ∧ ixN xss.length j = some k ∧ xss[k]? = some xs ∧ as[k]? = some b ∧ o b = some (.slot i) ∧ H b = some (.lst vs) ∧ vs.length ≤ sizeLine ∧ RepAll K o H vs xs ∧
      ∀ vs' xs', vs'.length ≤ sizeLine → RepAll K o H vs' xs' → Step isVol o c H o c (upd H b (.lst vs')) ∧ RS K o c (ρ.set i (some (.own2 (xss.set k xs')))) S σ (upd H b (.lst vs')) := by
  unfold L2.atI at hx
  cases hn : ixN xss.length j with
  | none => rw [hn] at hx; cases hx
  | some k =>
    rw [hn] at hx
    obtain ⟨a, as, b, vs, h1, h2, h3, h4, h5, h6, h7, h8, h9⟩ := own2_row rs e hx
    refine ⟨a, as, b, vs, k, h1, h2, ?_, rfl, hx, h4, h5, h6, h7, h8, h9⟩
    unfold L2.atI
    rw [List.length_map, h3, hn]
    simp [h4]
theorem uv_ix2 (i : Nat) (h2 : UV G b f2) (hs : PlainIx b := by exact fun _ _ => rfl) (hN : G.N[i]? = some x := by rfl) (hv : Vis G.sc x := by first | exact Or.inl rfl | exact Or.inr (Or.inl rfl) | exact Or.inr (Or.inr rfl))
    (hd : (x == ("__debug__" : Str)) = false := by decide) (hcd : (x == ("__classdict__" : Str)) = false := by decide) : UV G (.Subscript (.Name x xp) b pos) (cIx2 i f2) := by
  obtain ⟨t2, p2, q2⟩ := h2
  refine ⟨fun W => tOp (rIxL G.K) (tVar i) (t2 W), fun X W k => by have := pe_ix (pos := pos) (ix_list (X := X)) (pe_var (pos := xp) (k.at hN) (k.vis hv) hd hcd) (p2 X W k) hs; rw [k.K] at this; exact this, fun W σ H ρ S o c Q nt rs p => ?_⟩
  unfold cIx2 at p
  split at p
  · rename_i xss e
    obtain ⟨v0, ev, _⟩ := rs.slot i _ e
    refine ⟨v0, ev, ?_⟩
    refine q2 W σ H ρ S o c _ nt rs ?_
    cases e1 : f2 ρ S with
    | bad => rw [e1] at p; exact p.elim
    | exc e' S' => rw [e1] at p; exact p
    | ok t0 S1 =>
      rw [e1] at p
      cases e2 : asD t0 with
      | none => rw [R.d_okn e2] at p; exact p.elim
      | some d =>
        rw [R.d_oks e2] at p
        refine ⟨d, e2, fun w o1 c1 H1 s1 nt1 rs1 r1 => ?_⟩
        cases d with
        | int j =>
          cases e3 : atI xss j with
          | none => simp only [e3] at p; exact p.elim
          | some xs =>
            simp only [e3] at p
            obtain ⟨d', e4, q⟩ := p
            cases e4
            obtain ⟨a, as, b, vs, k, h1, h2, h3, h4, h5, h6, h7, h8, h9, h10, _⟩ := own2_ix rs1 e e3
            rw [ev] at h1
            cases h1
            exact ⟨a, _, j, .ref b, rfl, r1.intV, .inl (.inl h2), h3, q _ o1 c1 H1 s1 nt1 rs1 (.lst b vs xs h8 (fun w hw => by rw [h7] at hw; cases hw; exact fun z => z) h9 h10)⟩
        | _ => exact p.elim
  · exact p.elim
/-! ### x[i][j] = e -/
def sSet2 (i : Nat) (fa fb fv : SE) : SS := sE fv fun t ρ S => match asD t with
  | none => .bad
  | some d => match ρ[i]? with
    | some (some (.own2 xss)) => sD fa (fun da ρ S => match da with
      | .int j => (match ixN xss.length j with
        | some k => (match xss[k]? with
          | some xs => sD fb (fun db ρ S => match db with
            | .int l => (match ixN xs.length l with | some m => .nx (ρ.set i (some (.own2 (xss.set k (xs.set m d))))) S | none => .bad)
            | _ => .bad) ρ S
          | none => .bad)
        | none => .bad)
      | _ => .bad) ρ S
    | _ => .bad
theorem atI_ixN {α : Type} {xs : List α} {j : Int} {k : Nat} {y : α} (h : ixN xs.length j = some k) (h' : xs[k]? = some y) : atI xs j = some y := by
  unfold L2.atI
  rw [h]
  exact h'
theorem sv_set2 (i : Nat) (h1 : EV G e f1) (h2 : UV G a f2) (h3 : UV G b f3) (hs2 : PlainIx a := by exact fun _ _ => rfl) (hN : G.N[i]? = some x := by rfl) (hv : Vis G.sc x := by first | exact Or.inl rfl | exact Or.inr (Or.inl rfl) | exact Or.inr (Or.inr rfl)) (hd : (x == ("__debug__" : Str)) = false := by decide) (hcd : (x == ("__classdict__" : Str)) = false := by decide)
    (ha : ∀ (env : PySem.Env) v, assign (.Subscript (.Subscript (.Name x xp) a up) b tp) env v = (do
      let ov ← holding [v] (eval (.Subscript (.Name x xp) a up) env)
      let iv ← holding [v, ov] (eval b env)
      standAt tp
      holding [v, ov, iv] (setItem ov iv v)
      release [v, ov, iv] []) := by intro _ _; rfl)
    (hs : ∀ env : PySem.Env, env.scope = G.sc → swapsWithSole [.Subscript (.Subscript (.Name x xp) a up) b tp] e pos.line env = pure false := by intro _ _; rfl) (hw : ∀ env : PySem.Env, swappedStores [.Subscript (.Subscript (.Name x xp) a up) b tp] e env = pure none := by intro _; rfl)
    (h4 : ∀ env : PySem.Env, (assignEach [.Subscript (.Subscript (.Name x xp) a up) b tp] env).map (·.2) = [assign (.Subscript (.Subscript (.Name x xp) a up) b tp) env] := by intro _; rfl) : SV G (.Assign [.Subscript (.Subscript (.Name x xp) a up) b tp] e pos) (sSet2 i f2 f3 f1) := by
  obtain ⟨t1, p1, q1⟩ := h1
  obtain ⟨t2, p2, q2⟩ := h2
  obtain ⟨t3, p3, q3⟩ := h3
  refine ⟨fun W => tAsg (t1 W) (L2.gSub (tOp (rIxL G.K) (tVar i) (t2 W)) (t3 W) rSetL), fun X W k => ?_, fun W σ H ρ S o c D nt rs ps => ?_⟩
  · have hp := pe_ix (pos := up) (ix_list (X := X)) (pe_var (pos := xp) (k.at hN) (k.vis hv) hd hcd) (p2 X W k) hs2
    rw [k.K] at hp
    exact ps_asg (p1 X W k) (pg_sub hp (p3 X W k) set_list (ha _)) (hs _ k.sc) (hw _) (h4 _)
  refine (q1 W).s nt rs ps fun t S1 v o1 c1 H1 s1 rs1 r1 p1 => ?_
  cases e1 : asD t with
  | none => simp only [e1] at p1; exact p1.elim
  | some d =>
    simp only [e1] at p1
    split at p1
    rotate_left
    · exact p1.elim
    · rename_i xss e2
      have rd := r1.toD rs1.cs.trk e1
      have rs2 := rs1.untmp
      have nt2 : NT (unT o1) := unT_nt
      have st : Step isVol o1 c1 H1 (unT o1) c1 H1 := ⟨fun a u e _ => e, fun a w e n => dropO_some e (by cases w <;> first | rfl | exact absurd trivial n), fun a e n => absurd (dropO_none e) n, List.prefix_refl c1⟩
      have p2 := PostS.step st p1
      obtain ⟨v0, ev, _⟩ := rs2.slot i _ e2
      refine ⟨v0, ev, (q2 W).s nt2 rs2 p2 fun da S3 iv o3 c3 H3 s3 nt3 rs3 ri p3 => ?_⟩
      have rd3 := rd.step rs2.cs.trk s3
      cases da with
      | int j =>
        cases e4 : ixN xss.length j with
        | none => simp only [e4] at p3; exact p3.elim
        | some k =>
          simp only [e4] at p3
          cases e5 : xss[k]? with
          | none => simp only [e5] at p3; exact p3.elim
          | some xs =>
            simp only [e5] at p3
            obtain ⟨a3, as, b3, vs, k3, y1, y2, y3, y4, y5, y6, y7, y8, y9, y10, _⟩ := own2_ix rs3 e2 (atI_ixN e4 e5)
            rw [ev] at y1
            cases y1
            rw [e4] at y4
            cases y4
            refine ⟨a3, _, j, .ref b3, rfl, ri.intV, .inl (.inl y2), y3, ?_⟩
            refine (q3 W).s nt3 rs3 p3 fun db S5 jv o5 c5 H5 s5 nt5 rs5 rj p5 => ?_
            have rd5 := rd3.step rs3.cs.trk s5
            cases db with
            | int l =>
              cases e6 : ixN xs.length l with
              | none => simp only [e6] at p5; exact p5.elim
              | some m =>
                simp only [e6] at p5
                obtain ⟨a5, as5, b5, vs5, k5, z1, z2, z3, z4, z5, z6, z7, z8, z9, z10, wr⟩ := own2_ix rs5 e2 (atI_ixN e4 e5)
                rw [ev] at z1
                cases z1
                rw [e4] at z4
                cases z4
                have hA : H5 a3 = some (.lst (as.map V.ref)) := s5.keep a3 _ y2 fun w hw => by
                  obtain ⟨v', ev', a', as', e', q', _⟩ := rs3.slot i _ e2
                  rw [ev] at ev'
                  cases ev'
                  cases e'
                  rw [q'] at hw
                  cases hw
                  exact fun z => z
                rw [hA] at z2
                have has : as.map V.ref = as5.map V.ref := by
                  simp only [Option.some.injEq, HO.lst.injEq] at z2
                  exact z2
                have : b5 = b3 := by
                  have h1 : (as5.map V.ref)[k]? = some (.ref b5) := by rw [List.getElem?_map, z6]; rfl
                  have h2 : (as.map V.ref)[k]? = some (.ref b3) := by rw [List.getElem?_map, y6]; rfl
                  rw [has, h1] at h2
                  cases h2
                  rfl
                subst this
                refine ⟨b5, vs5, l, m, rfl, rj.intV, z8, by rw [z10.length]; exact e6, ?_⟩
                obtain ⟨s6, rs6⟩ := wr (vs5.set m v) (xs.set m d) (by rw [List.length_set]; exact z9) (RepAll.set rd5 m z10)
                exact p5 σ o5 c5 _ s6 nt5 rs6
            | _ => exact p5.elim
      | _ => exact p3.elim
end
end BV
/-! The by-value calculus: a comprehension whose items are new lists. -/
namespace BV
open PySem L2

def lcM2 (b : BT1) (tt : SB) (elt : SE) (ρ : En) : List D → Sto → R (List (List D))
  | [], S => .ok [] S
  | d :: ds, S => match b d ρ with
    | none => .bad
    | some ρ1 => match tt ρ1 S with
      | .ok true S1 => (match elt ρ1 S1 with
        | .ok (.own x) S2 => R.l (lcM2 b tt elt ρ ds S2) fun xs S3 => .ok (x :: xs) S3
        | _ => .bad)
      | .ok false S1 => lcM2 b tt elt ρ ds S1
      | _ => .bad
def cLc2 (src : SI) (b : BT1) (tt : SB) (elt : SE) (vs : List Nat) : SE := fun ρ S => R.l (src ρ S) fun ds S1 => R.l (lcM2 b tt elt (wipeE ρ vs) ds S1) fun xs S2 => .ok (.own2 xs) S2
/-- the rows: each stands at its place -/
def Rows (K : PySem.W.Frag) (o : Gh) (H : Hp) (w : Ow) (as : List Addr) (yss : List (List D)) : Prop :=
  as.length = yss.length ∧ ∀ (i : Nat) (b : Addr) (xs : List D), as[i]? = some b → yss[i]? = some xs → o b = some w ∧ ∃ vs, H b = some (.lst vs) ∧ vs.length ≤ sizeLine ∧ RepAll K o H vs xs
theorem Rows.step {K : PySem.W.Frag} {o o1 : Gh} {c c1 : Cs} {H H1 : Hp} {w : Ow} {as : List Addr} {yss : List (List D)} {vol : Ow → Prop} (tr : Trk o H) (s : Step vol o c H o1 c1 H1) (hw : ¬ vol w) (r : Rows K o H w as yss) : Rows K o1 H1 w as yss :=
  ⟨r.1, fun i b xs e1 e2 => by
    obtain ⟨q, vs, h, z, ra⟩ := r.2 i b xs e1 e2
    exact ⟨s.own _ _ q hw, vs, s.keep b _ h (fun w' hw' => by rw [q] at hw'; cases hw'; exact hw), z, ra.step tr s⟩⟩
theorem Rows.of {K : PySem.W.Frag} {o : Gh} {H : Hp} {w : Ow} {as : List Addr} {yss : List (List D)} (r : Rows K o H w as yss) : ∀ b ∈ as, o b = some w := fun b hb => by
  obtain ⟨i, hi, e⟩ := List.mem_iff_getElem.mp hb
  have e1 : as[i]? = some b := by rw [List.getElem?_eq_getElem hi, e]
  have hy : i < yss.length := by rw [← r.1]; exact hi
  exact (r.2 i b _ e1 (List.getElem?_eq_getElem hy)).1
/-- what is temporary at a becomes protected -/
def protAt (o : Gh) (a : Addr) : Gh := fun b => if b = a then some .prot else o b
def tmpIn (o : Gh) (as : List Addr) : Gh := fun b => if b ∈ as then some .tmp else o b
section
variable {G : Cc} {W : WX} {o o1 o2 : Gh} {c c1 c2 : Cs} {ρ : En} {σ : L2.St} {H H1 H2 : Hp} {S S1 : Sto} {pos p : Pos} {a b e tg : Expr} {f f1 f2 f3 : SE} {t : T} {v : V} {i : Nat} {x : Str} {xp tp up : Pos}
theorem er_lc2 {L vs : List Nat} {src : SI} {b : BT1} {tt : SB} {elt : SE} {wi : TI} {g : TG} {tT : TT} {tE : TE} {scope : Scope} (hi : IR isCell G W wi src) (hg : GR G.K L g b) (hL : ∀ j ∈ L, j ∈ vs)
    (ht : TR (G.blk scope) (fun _ _ _ _ => False) tT tt) (he : ER (G.blk scope) (fun _ _ _ _ => False) tE elt) : ER G W (tLc wi g tT tE vs) (cLc2 src b tt elt vs) := by
  intro σ H ρ S o c Q nt rs ps
  refine hi σ H ρ S o c _ nt rs ?_
  unfold cLc2 at ps
  cases e : src ρ S with
  | bad => rw [e] at ps; exact ps.elim
  | exc e' S' => rw [e] at ps; exact ps
  | ok ds S1 =>
    rw [e] at ps
    intro J o1 c1 H1 s1 nt1 rs1 it D hD
    have ps1 : PostE G W o1 c1 ρ σ H1 (R.l (lcM2 b tt elt (wipeE ρ vs) ds S1) fun xs S2 => .ok (.own2 xs) S2) Q := PostE.step s1 ps
    refine ⟨fun i m H => m = ds.length - i ∧ i ≤ ds.length ∧ ∃ S o c as yss, Step isCell o1 c1 H1 o c H ∧ NT o ∧ o D = some .prot ∧ CS G.K o c S H ∧ H D = some (.lst (as.map V.ref)) ∧ (D :: as).Nodup ∧ (∀ b ∈ as, ∀ w, o1 b = some w → isCell w) ∧ Rows G.K o H .prot as yss ∧ as.length ≤ i ∧
      PostE G W o1 c1 ρ σ H1 (R.l (lcM2 b tt elt (wipeE ρ vs) (ds.drop i) S) fun xs S2 => .ok (.own2 (yss ++ xs)) S2) Q,
      ⟨ds.length, by simp, Nat.zero_le _, S1, mkO o1 D .prot, c1, [], [], Step.laidO rs1.cs.trk hD, ?_, mkO_same, rs1.cs.laidO hD trivial, upd_same, by simp, by simp, ⟨rfl, fun i b xs e => by simp at e⟩, Nat.le_refl _, by rw [List.drop_zero]; exact ps1⟩, ?_⟩
    · intro a z
      by_cases q : a = D
      · subst q; rw [mkO_same] at z; cases z
      · rw [mkO_ne q] at z; exact nt1 a z
    rintro i m H2 ⟨rfl, hi2, S2, o2, c2, as, yss, s2, nt2, hp2, cs2, hD2, nd2, nw2, ra2, la2, p2⟩
    obtain ⟨stop, go⟩ := it.2 o2 c2 H2 s2 cs2.trk i
    by_cases hlt : i < ds.length
    · obtain ⟨gg1, gg2⟩ := go ds[i] (List.getElem?_eq_getElem hlt)
      rw [List.drop_eq_getElem_cons hlt] at p2
      refine .inr ⟨gg1, fun H => ∃ S o c as yss, Step isCell o1 c1 H1 o c H ∧ NT o ∧ o D = some .prot ∧ CS G.K o c S H ∧ H D = some (.lst (as.map V.ref)) ∧ (D :: as).Nodup ∧ (∀ b ∈ as, ∀ w, o1 b = some w → isCell w) ∧ Rows G.K o H .prot as yss ∧ as.length ≤ i + 1 ∧
        PostE G W o1 c1 ρ σ H1 (R.l (lcM2 b tt elt (wipeE ρ vs) (ds.drop (i + 1)) S) fun xs S2 => .ok (.own2 (yss ++ xs)) S2) Q, fun H' q => ⟨ds.length - (i + 1), by omega, rfl, hlt, q⟩, fun x H3 y => ?_⟩
      obtain ⟨gr, rx⟩ := gg2 x H3 y
      have cs3 := grow_cs cs2 gr
      have s3 : Step isCell o2 c2 H2 o2 c2 H3 := grow_step gr
      have rsw : RS G.K o2 c2 (wipeE ρ vs) S2 (L2.wipe σ vs) H3 := ((rs1.step (s2.trans s3) cs3)).wipe vs
      unfold lcM2 at p2
      cases eb : b ds[i] (wipeE ρ vs) with
      | none => rw [eb] at p2; exact p2.elim
      | some ρ4 =>
        rw [eb] at p2
        refine hg (L2.wipe σ vs) H3 (wipeE ρ vs) ρ4 S2 o2 c2 x ds[i] _ nt2 rsw rx eb fun σ4 rs4 f4 l4 => ?_
        refine ⟨wipe_eq hL l4 f4, ?_⟩
        refine ht σ4 H3 ρ4 S2 o2 c2 _ nt2 rs4 ?_
        have hD3 : H3 D = some (.lst (as.map V.ref)) := gr _ _ hD2
        have np : ∀ w, o2 D = some w → ¬ isCell w := fun w hw => by rw [hp2] at hw; cases hw; exact fun z => z
        have ra3 := ra2.step cs2.trk s3 (vol := isCell) (show ¬ isCell Ow.prot from fun z => z)
        cases et : tt ρ4 S2 with
        | bad => simp only [et] at p2; exact p2.elim
        | exc e' S' => simp only [et] at p2; exact p2.elim
        | ok bb S3 =>
          simp only [et] at p2
          intro o5 c5 H5 s5 nt5 rs5
          have hp5 : o5 D = some .prot := s5.own D _ hp2 (fun z => z)
          have hD5 : H5 D = some (.lst (as.map V.ref)) := s5.keep D _ hD3 np
          have sa : Step isCell o1 c1 H1 o5 c5 H5 := (s2.trans s3).trans s5
          have ra5 := ra3.step cs3.trk s5 (vol := isCell) (show ¬ isCell Ow.prot from fun z => z)
          cases bb with
          | false =>
            rw [if_neg Bool.false_ne_true]
            exact ⟨S3, o5, c5, as, yss, sa, nt5, hp5, rs5.cs, hD5, nd2, nw2, ra5, Nat.le_succ_of_le la2, p2⟩
          | true =>
            rw [if_pos rfl]
            refine he σ4 H5 ρ4 S3 o5 c5 _ nt5 rs5 ?_
            cases ee : elt ρ4 S3 with
            | bad => simp only [ee] at p2; exact p2.elim
            | exc e' S' => simp only [ee] at p2; exact p2.elim
            | ok t S4 =>
              simp only [ee] at p2
              intro v o6 c6 H6 s6 rs6 r6
              cases t with
              | own xd =>
                obtain ⟨a6, ws, rfl, ho6, hH6, hz6, hr6⟩ := r6
                have np5 : ∀ w, o5 D = some w → ¬ isCell w := fun w hw => by rw [hp5] at hw; cases hw; exact fun z => z
                have hp6 : o6 D = some .prot := s6.own D _ hp5 (fun z => z)
                have hD6 : H6 D = some (.lst (as.map V.ref)) := s6.keep D _ hD5 np5
                have cs6 := rs6.cs
                have ra6 := ra5.step rs5.cs.trk s6 (vol := isCell) (show ¬ isCell Ow.prot from fun z => z)
                have sz := sa.trans s6
                have na : a6 ≠ D := fun z => by rw [z, hp6] at ho6; cases ho6
                have nas : a6 ∉ as := fun z => by rw [ra6.of _ z] at ho6; cases ho6
                have n1 : ∀ w, o1 a6 = some w → isCell w := fun w hw => by
                  by_cases q : isCell w
                  · exact q
                  · have := sz.own a6 w hw q
                    rw [ho6] at this
                    cases this
                    exact absurd hw (nt1 a6)
                have aD : ∀ b ∈ as, b ≠ D := fun b hb z => (List.nodup_cons.mp nd2).1 (z ▸ hb)
                have pO : ∀ b, b ≠ a6 → protAt (unT o6) a6 b = unT o6 b := fun b hb => by unfold protAt; rw [if_neg hb]
                have pS : protAt (unT o6) a6 a6 = some .prot := by unfold protAt; rw [if_pos rfl]
                have kp : ∀ u, Kept o6 H6 (protAt (unT o6) a6) (upd H6 D u) := fun u b x e n => by
                  have h1 : b ≠ a6 := fun z => by rw [z, ho6] at n; cases n
                  have h2 : b ≠ D := fun z => by rw [z, hp6] at n; cases n
                  exact ⟨by rw [upd_ne h2]; exact e, by rw [pO b h1]; exact dropO_none n⟩
                have pP : ∀ b w, o6 b = some w → isTmp w = false → protAt (unT o6) a6 b = some w := fun b w e n => by
                  have h1 : b ≠ a6 := fun z => by rw [z, ho6] at e; cases e; cases n
                  rw [pO b h1]
                  exact dropO_some e n
                have hlen : (as.map V.ref).length < sizeLine := by rw [List.length_map]; exact Nat.lt_of_le_of_lt la2 (Nat.lt_of_lt_of_le hlt it.1)
                have emap : as.map V.ref ++ [V.ref a6] = (as ++ [a6]).map V.ref := by rw [List.map_append]; rfl
                refine ⟨as.map V.ref, hD6, hlen, S4, protAt (unT o6) a6, c6, as ++ [a6], yss ++ [xd], ⟨fun b u e n => ?_, fun b w e n => ?_, fun b e n => ?_, sz.pre⟩, fun b h => ?_, pP D _ hp6 rfl, ?_, by rw [emap]; exact upd_same, ?_, ?_, ⟨by rw [List.length_append, List.length_append, ra6.1]; rfl, fun k b xs e1 e2 => ?_⟩, by rw [List.length_append]; exact Nat.succ_le_succ la2, ?_⟩
                · rw [upd_ne (ne_of_none e hD)]
                  exact sz.keep b u e n
                · refine pP b w (sz.own b w e n) ?_
                  cases w <;> first | rfl | exact absurd e (nt1 b)
                · by_cases q : b = a6
                  · rw [q]
                    rw [q] at e
                    exact sz.new a6 e (by rw [ho6]; simp)
                  · rw [pO b q] at n
                    exact sz.new b e (dropO_ne n)
                · by_cases q : b = a6
                  · rw [q, pS] at h; cases h
                  · rw [pO b q] at h
                    exact unT_nt b h
                · refine cs6.move (kp _) (fun b n e => ⟨pP b _ e rfl, fun u hu => by
                    rw [upd_ne (fun z => by rw [z, hp6] at e; cases e)]; exact hu⟩) fun b hb => ?_
                  by_cases q : b = D
                  · rw [q]; exact ⟨_, upd_same, trivial⟩
                  · rw [upd_ne q]
                    by_cases q2 : b = a6
                    · rw [q2]; exact ⟨_, hH6, trivial⟩
                    · rw [pO b q2] at hb
                      exact cs6.trk b (dropO_ne hb)
                · rw [← List.cons_append]
                  refine List.nodup_append.mpr ⟨nd2, by simp, fun u hu w hw => ?_⟩
                  simp only [List.mem_singleton] at hw
                  subst hw
                  rcases List.mem_cons.mp hu with h | h
                  · rw [h]; exact Ne.symm na
                  · exact fun z => nas (z ▸ h)
                · intro b hb
                  rcases List.mem_append.mp hb with h | h
                  · exact nw2 b h
                  · simp only [List.mem_singleton] at h
                    rw [h]; exact n1
                · by_cases hk : k < as.length
                  · rw [List.getElem?_append_left hk] at e1
                    rw [List.getElem?_append_left (by rw [← ra6.1]; exact hk)] at e2
                    obtain ⟨q1, us, q2, q3, q4⟩ := ra6.2 k b xs e1 e2
                    exact ⟨pP b _ q1 rfl, us, by rw [upd_ne (aD b (List.mem_of_getElem? e1))]; exact q2, q3, q4.kept cs6.trk (kp _)⟩
                  · have hk2 : k = as.length := by
                      have := (List.getElem?_eq_some_iff.mp e1).1
                      rw [List.length_append] at this
                      simp at this
                      omega
                    subst hk2
                    rw [List.getElem?_append_right (Nat.le_refl _), Nat.sub_self] at e1
                    rw [ra6.1, List.getElem?_append_right (Nat.le_refl _), Nat.sub_self] at e2
                    simp only [List.getElem?_cons_zero, Option.some.injEq] at e1 e2
                    subst e1 e2
                    exact ⟨pS, ws, by rw [upd_ne na]; exact hH6, hz6, hr6.kept cs6.trk (kp _)⟩
                · have p2 : PostE G W o1 c1 ρ σ H1 (R.l (R.l (lcM2 b tt elt (wipeE ρ vs) (ds.drop (i + 1)) S4) fun xs S3 => .ok (xd :: xs) S3) fun xs S2 => .ok (.own2 (yss ++ xs)) S2) Q := p2
                  cases el : lcM2 b tt elt (wipeE ρ vs) (ds.drop (i + 1)) S4 with
                  | bad => rw [el] at p2; exact p2
                  | exc e' S' => rw [el] at p2; exact p2
                  | ok xs S5 =>
                    rw [el] at p2
                    have p8 : PostE G W o1 c1 ρ σ H1 (.ok (.own2 (yss ++ (xd :: xs))) S5) Q := p2
                    show PostE G W o1 c1 ρ σ H1 (.ok (.own2 ((yss ++ [xd]) ++ xs)) S5) Q
                    rw [List.append_assoc]
                    exact p8
              | _ => exact p2.elim
    · have ei : i = ds.length := by omega
      subst ei
      rw [List.drop_length] at p2
      refine .inl ⟨stop (Nat.le_refl _), ?_⟩
      have p3 : PostE G W o1 c1 ρ σ H1 (.ok (.own2 yss) S2) Q := by
        have : PostE G W o1 c1 ρ σ H1 (.ok (.own2 (yss ++ [])) S2) Q := p2
        rw [List.append_nil] at this
        exact this
      have nDo : o1 D = none := rs1.cs.trk.new hD
      have tI : ∀ b ∈ D :: as, tmpIn o2 (D :: as) b = some .tmp := fun b hb => by unfold tmpIn; rw [if_pos hb]
      have tO : ∀ b, b ∉ D :: as → tmpIn o2 (D :: as) b = o2 b := fun b hb => by unfold tmpIn; rw [if_neg hb]
      have pr : ∀ b ∈ D :: as, o2 b = some .prot := fun b hb => by
        rcases List.mem_cons.mp hb with h | h
        · rw [h]; exact hp2
        · exact ra2.of b h
      have st : Step isCell o1 c1 H1 (tmpIn o2 (D :: as)) c2 H2 := ⟨s2.keep, fun a w e n => by
          have : a ∉ D :: as := fun z => by
            rcases List.mem_cons.mp z with h | h
            · rw [h, nDo] at e; cases e
            · exact n (nw2 a h w e)
          rw [tO a this]
          exact s2.own a w e n, fun a e n => by
          by_cases z : a ∈ D :: as
          · exact s2.new a e (by rw [pr a z]; simp)
          · rw [tO a z] at n
            exact s2.new a e n, s2.pre⟩
      have sup : ∀ a, o2 a = none → tmpIn o2 (D :: as) a = none := fun a e => by
        have : a ∉ D :: as := fun z => by rw [pr a z] at e; cases e
        rw [tO a this]
        exact e
      have cst : CS G.K (tmpIn o2 (D :: as)) c2 S2 H2 := cs2.turn sup (fun a n e => by
        have : a ∉ D :: as := fun z => by rw [pr a z] at e; cases e
        rw [tO a this]
        exact e) fun a n e => n (sup a e)
      exact p3 (.ref D) (tmpIn o2 (D :: as)) c2 H2 st (rs1.step st cst) ⟨D, as, rfl, tI D (List.mem_cons_self ..), hD2, nd2, Nat.le_trans la2 it.1, ra2.1, fun k b xs e1 e2 => by
        obtain ⟨q1, us, q2, q3, q4⟩ := ra2.2 k b xs e1 e2
        exact ⟨tI b (List.mem_cons_of_mem _ (List.mem_of_getElem? e1)), us, q2, q3, q4.kept cs2.trk (Kept.same sup)⟩⟩
theorem sv_asgLc2 (i : Nat) {x : Str} {py : Pos} {spos : Pos} {L : List Nat} {iter elt : Expr} {ifs : List Expr} {scope : Scope} {own : List (Str × Nat)} {src : SI} {b : BT1} {tt : SB} {fe : SE} (hi : IV isCell G tg iter src) (hg : GV (G.blk scope) tg L b) (ht : TVs (G.blk scope) ifs tt) (he : EV (G.blk scope) elt fe)
    (hN : G.N[i]? = some x := by rfl) (hx : G.sc.names.lookup x = some .local := by rfl) (hk : G.sc.kind = .function := by rfl) (hl : (py.line == pos.line) = true := by rfl)
    (ha : (scope.names.any fun (n, k) => n == x && (k == .local || k == .cell)) = false := by decide +kernel)
    (hcm : G.hot = none := by rfl) (hb : blkC G.N G.sc scope own = true := by (try dsimp only [Cc.blk]); decide +kernel) (hL : ∀ j ∈ L, j ∈ own.map (·.2) := by decide) (nd : G.N.Nodup := by (try dsimp only [Cc.blk]); decide +kernel) (hs : ∀ (env : PySem.Env) x, foldedSetIterable iter env x = pure x := by intro _ _; rfl) :
    SV G (.Assign [.Name x py] (.ListComp elt [⟨tg, iter, ifs, 0⟩] scope pos) spos) (sAsg i (cLc2 src b tt fe (own.map (·.2)))) := by
  obtain ⟨wi, pi, qi⟩ := hi
  obtain ⟨gg, pg, qg⟩ := hg
  obtain ⟨tT, pt, qt⟩ := ht
  obtain ⟨tE, pe, qe⟩ := he
  refine ⟨fun W => tAsg (tLc (wi W) gg (tT fun _ _ _ _ => False) (tE fun _ _ _ _ => False) (own.map (·.2))) (gName i), fun X W k => ?_, fun W σ H ρ S o c D nt rs ps => ?_⟩
  · exact ps_setLc (k.calm hcm) (k.nd nd) (k.at hN) (by rw [k.sc]; exact hx) (sw_true (by rw [k.sc]; exact hk) (by rw [k.sc]; exact hx) hl ha) (pi X W k) (blkOk_by (by rw [k.N, k.sc]; exact hb)) (fun s H C cl fp => pg _ _ (k.blk hcm scope s H C cl fp)) (fun s H C cl fp => pt _ _ (k.blk hcm scope s H C cl fp)) (fun s H C cl fp => pe _ _ (k.blk hcm scope s H C cl fp)) (hs _)
  · exact (er_lc2 (qi W) qg hL (qt _) (qe _)).s nt rs ps fun t S1 v o1 c1 H1 s1 rs1 r1 p1 => p1 _ (reT i o1) c1 H1 Step.refl.re reT_nt (rs1.put r1)
theorem ev_lc2 {L : List Nat} {iter elt : Expr} {ifs : List Expr} {scope : Scope} {own : List (Str × Nat)} {src : SI} {b : BT1} {tt : SB} {fe : SE} (hi : IV isCell G tg iter src) (hg : GV (G.blk scope) tg L b) (ht : TVs (G.blk scope) ifs tt) (he : EV (G.blk scope) elt fe)
    (hcm : G.hot = none := by rfl) (hb : blkC G.N G.sc scope own = true := by (try dsimp only [Cc.blk]); decide +kernel) (hL : ∀ j ∈ L, j ∈ own.map (·.2) := by decide) (nd : G.N.Nodup := by (try dsimp only [Cc.blk]); decide +kernel) (hs : ∀ (env : PySem.Env) x, foldedSetIterable iter env x = pure x := by intro _ _; rfl) :
    EV G (.ListComp elt [⟨tg, iter, ifs, 0⟩] scope pos) (cLc2 src b tt fe (own.map (·.2))) := by
  obtain ⟨wi, pi, qi⟩ := hi
  obtain ⟨gg, pg, qg⟩ := hg
  obtain ⟨tT, pt, qt⟩ := ht
  obtain ⟨tE, pe, qe⟩ := he
  refine ⟨fun W => tLc (wi W) gg (tT fun _ _ _ _ => False) (tE fun _ _ _ _ => False) (own.map (·.2)), fun X W k => ?_, fun W => er_lc2 (qi W) qg hL (qt _) (qe _)⟩
  exact pe_lc (k.calm hcm) (k.nd nd) (pi X W k) (blkOk_by (by rw [k.N, k.sc]; exact hb)) (fun s H C cl fp => pg _ _ (k.blk hcm scope s H C cl fp)) (fun s H C cl fp => pt _ _ (k.blk hcm scope s H C cl fp)) (fun s H C cl fp => pe _ _ (k.blk hcm scope s H C cl fp)) (hs _)
end
end BV
/-! The by-value calculus: isinstance, lists of rows changed, methods of texts and lists that change nothing. -/
namespace BV
open PySem L2

/-! ### isinstance -/
def tyN : D → String
  | .none => "NoneType"
  | .bool _ => "bool"
  | .int _ => "int"
  | .str _ => "str"
  | .list _ => "list"
  | .tuple _ => "tuple"
  | .dict _ => "dict"
def isDct : D → Bool
  | .dict _ => true
  | _ => false
theorem tyX_rep {K : PySem.W.Frag} {o : Gh} {H : Hp} {v : V} {d : D} (r : RepU K o H v d) (nd : isDct d = false) : TyX K H v (.type (tyN d)) := by
  cases d with
  | none => rw [r.nonV]; exact .base .non
  | bool b => rw [r.blV]; exact .base (.bl b)
  | int i => rw [r.intV]; exact .base (.int i)
  | str x => rw [r.strV.1]; exact .base (.str x)
  | list xs =>
    obtain ⟨a, vs, e, h1, _, _, ra⟩ := r.lstV
    rw [e]; exact .base (.lst h1)
  | tuple xs =>
    obtain ⟨a, vs, e, h1, _, ra⟩ := r.tupV
    rw [e]
    rcases h1 with (h | ⟨ob, h⟩) | h
    · exact .base (.tup h)
    · exact .fTuple h
    · obtain ⟨ob, its, n, h1, h2, _⟩ := h
      exact .kTuple h1 h2
  | dict kvs => cases nd
def isT (ty : String) (d : D) : Bool := match kitB (tyN d) ty with | some b => b | none => false
def gIsi (ty : String) : D → Option T := fun d => if isDct d then none else (kitB (tyN d) ty).map fun b => .val (.bool b)
section
variable {G : Cc} {W : WX} {o o1 o2 : Gh} {c c1 c2 : Cs} {ρ : En} {σ : L2.St} {H H1 H2 : Hp} {S S1 : Sto} {pos p : Pos} {a b e tg : Expr} {f f1 f2 f3 : SE} {t : T} {v : V} {i : Nat} {x : Str} {xp tp up : Pos}
/-- isinstance(e, T), T a built-in type -/
theorem ev_isi {T : Str} {ty : String} {q : Pos} (h : UV G e f) (hm : G.mg "isinstance" = none) (ht : G.mg T = none) (hv : bootBuiltins T = some (.type ty)) (hg : G.sc.names.lookup ("isinstance" : Str) = some .globalImplicit := by rfl) (hgT : G.sc.names.lookup T = some .globalImplicit := by rfl)
    (hn : T ≠ "__name__" := by decide) (hdT : (T == ("__debug__" : Str)) = false := by decide)
    (he : ∀ env : PySem.Env, starEach [e, .Name T q] env = (false, eval e env) :: starEach [.Name T q] env := by intro _; rfl) (hpl : ∀ env : PySem.Env, (backTo pos (starEach [.Name T q] env)).any (·.1) = false := by intro _; rfl)
    (he2 : ∀ env : PySem.Env, starEach [.Name T q] env = (false, eval (.Name T q) env) :: starEach [] env := by intro _; rfl) : EV G (.Call (.Name "isinstance" p) [e, .Name T q] [] pos) (cUn (gIsi ty) f) := by
  obtain ⟨t, pp, qq⟩ := h
  refine ⟨fun W => tCB (rIsi G.K) (tCons (t W) (tCons (tC (.ty ty)) tNil)), fun X W k => ?_, fun W σ H ρ S o c Q nt rs ps => ?_⟩
  · have hc := call_isi (X := X)
    rw [k.K] at hc
    exact pe_callB hc (k.gl hg) (k.m hm) (by first | exact boot_isinstance | exact PyProof.Rows.boot_isinstance | rfl) (pa_cons (pp X W k) (pa_cons (pe_bltn (k.gl hgT) (k.m ht) hv rfl hn hdT) pa_nil (he2 _)) (he _)) (by decide) (by decide) (he _) (hpl _)
  · refine (qq W).d nt rs ps fun d S1 v o1 c1 H1 s1 nt1 rs1 r1 p1 => ?_
    cases nd : isDct d with
    | true => simp only [gIsi, nd, if_true] at p1; exact p1.elim
    | false =>
      simp only [gIsi, nd, Bool.false_eq_true, if_false] at p1
      cases e1 : kitB (tyN d) ty with
      | none => simp only [e1, Option.map_none] at p1; exact p1.elim
      | some b =>
        simp only [e1, Option.map_some] at p1
        exact ⟨v, .ty ty, _, _, b, rfl, .ty ty, tyX_rep r1 nd, kit_ty e1, post_val rs1 p1 (.bl b)⟩
end
end BV
/-! The by-value calculus: the script's length, targets of several names, defs by their data. -/
namespace BV
open PySem L2

section
variable {G : Cc} {W : WX} {o o1 o2 : Gh} {c c1 c2 : Cs} {ρ : En} {σ : L2.St} {H H1 H2 : Hp} {S S1 : Sto} {pos p : Pos} {a b e tg : Expr} {f f1 f2 f3 : SE} {t : T} {v : V} {i : Nat} {x : Str} {xp tp up : Pos}
/-- len(x), x the script -/
def cScrLen (i : Nat) : SE := fun ρ S => match ρ[i]? with
  | some (some (.scr ns)) => .ok (.val (.int (ns.length : Int))) S
  | _ => .bad
theorem ev_scrLen (i : Nat) (hm : G.mg "len" = none) (hN : G.N[i]? = some x := by rfl) (hv : Vis G.sc x := by first | exact Or.inl rfl | exact Or.inr (Or.inl rfl) | exact Or.inr (Or.inr rfl)) (hg : G.sc.names.lookup ("len" : Str) = some .globalImplicit := by rfl)
    (hd : (x == ("__debug__" : Str)) = false := by decide) (hcd : (x == ("__classdict__" : Str)) = false := by decide)
    (he : ∀ env : PySem.Env, starEach [.Name x xp] env = (false, eval (.Name x xp) env) :: starEach [] env := by intro _; rfl) (hpl : ∀ env : PySem.Env, (backTo pos (starEach [] env)).any (·.1) = false := by intro _; rfl) : EV G (.Call (.Name "len" p) [.Name x xp] [] pos) (cScrLen i) := by
  refine ⟨fun W => tCB (rLen G.K) (tCons (tVar i) tNil), fun X W k => ?_, fun W σ H ρ S o c Q nt rs ps => ?_⟩
  · have hc := call_len (X := X)
    rw [k.K] at hc
    exact pe_callB hc (k.gl hg) (k.m hm) boot_len (pa_cons (pe_var (pos := xp) (k.at hN) (k.vis hv) hd hcd) pa_nil (he _)) (by decide) (by decide) (he _) (hpl _)
  · unfold cScrLen at ps
    split at ps
    · rename_i ns e
      obtain ⟨v, e1, r⟩ := rs.slot i _ e
      obtain ⟨a, e2, hq⟩ := (show RepT G.K o c H (.slot i) v (.scr ns) from r).scrL
      subst e2
      exact ⟨_, e1, .ref a, ns.length, rfl, .inl ⟨_, hq, by rw [List.length_map]⟩, post_val rs ps (.int _)⟩
    · exact ps.elim
/-- (a, b) = e and the like -/
def sAsgG (b : BT1) (f : SE) : SS := sE f fun t ρ S => match BV.asD t with
  | some d => (match b d ρ with | some ρ' => .nx ρ' S | none => .bad)
  | none => .bad
theorem sv_asgG {L : List Nat} {b : BT1} (hg : GV G tg L b) (h : EV G e f)
    (hs : ∀ env : PySem.Env, env.scope = G.sc → swapsWithSole [tg] e pos.line env = pure false := by intro _ _; rfl) (hw : ∀ env : PySem.Env, env.scope = G.sc → swappedStores [tg] e env = pure none := by intro _ _; rfl)
    (h3 : ∀ env : PySem.Env, (assignEach [tg] env).map (·.2) = [assign tg env] := by intro _; rfl) : SV G (.Assign [tg] e pos) (sAsgG b f) := by
  obtain ⟨t, p, q⟩ := h
  obtain ⟨g, pg, qg⟩ := hg
  refine ⟨fun W => tAsg (t W) g, fun X W k => ps_asg (p X W k) (pg X W k) (hs _ k.sc) (hw _ k.sc) (h3 _), fun W σ H ρ S o c D nt rs ps => ?_⟩
  refine (q W).s nt rs ps fun t S1 v o1 c1 H1 s1 rs1 r1 p1 => ?_
  cases e1 : BV.asD t with
  | none => simp only [e1] at p1; exact p1.elim
  | some d =>
    simp only [e1] at p1
    cases e2 : b d ρ with
    | none => simp only [e2] at p1; exact p1.elim
    | some ρ' =>
      simp only [e2] at p1
      have rd := r1.toD rs1.cs.trk e1
      have st : Step isVol o1 c1 H1 (unT o1) c1 H1 := ⟨fun a u e _ => e, fun a w e n => dropO_some e (by cases w <;> first | rfl | exact absurd trivial n), fun a e n => absurd (dropO_none e) n, List.prefix_refl c1⟩
      exact qg σ H1 ρ ρ' S1 (unT o1) c1 v d _ unT_nt rs1.untmp rd e2 fun σ' rs' _ _ => p1 σ' (unT o1) c1 H1 st unT_nt rs'
end
/-! ### constants of the module -/
section
variable {G : Cc} {pos : Pos}
theorem ev_gintW {x : Str} {i : Int} (hm : ∃ t, G.mg x = some (.int i t)) (hg : G.sc.names.lookup x = some .globalImplicit := by rfl) (hd : (x == ("__debug__" : Str)) = false := by decide) : EV G (.Name x pos) (cC (.int i)) := by
  obtain ⟨t, h⟩ := hm
  exact ev_gint h hg hd
theorem ev_gstrW {x y : Str} (hm : ∃ t, G.mg x = some (.str y t)) (h1 : PyData.strOk y = true := by exact strOk_of _) (h2 : y.length ≤ sizeLine := by decide +kernel) (hg : G.sc.names.lookup x = some .globalImplicit := by rfl) (hd : (x == ("__debug__" : Str)) = false := by decide) : EV G (.Name x pos) (cC (.str y)) := by
  obtain ⟨t, h⟩ := hm
  exact ev_gstr h h1 h2 hg hd
end
/-! ### a def by its data -/
theorem fun_of {K : PySem.W.Frag} {x qual : Str} {st : Stmt} {f : Addr} {fd : FuncData} {kws : List (Str × V)} (F : FunD K x qual (defArgs st) (defBody st) (defScope st) [] kws f fd) : Fun K x qual st f fd := by
  obtain ⟨oc, od, dV, kV, doc, pm, an, cdv, ct, osl, e, l, c, hd, _⟩ := F.ex
  rcases hd with ⟨_, e2⟩ | ⟨e2, _⟩
  · subst e2
    exact ⟨⟨oc, od, kV, doc, pm, an, cdv, ct, osl, e, l, c⟩, F.kp⟩
  · exact absurd rfl e2
theorem fn_defD {P : Program} {w : World} {K : PySem.W.Frag} {mg : Str → Option Value} {base : Heap} {cn : Bool} {k : Nat} {x qual : Str} {st : Stmt} {f : Addr} {fd : FuncData} {N ps : List Str} {g : SS} {sc : Scope} {n : Nat}
    (F : FunD K x qual (defArgs st) (defBody st) (defScope st) [] [] f fd) (hsc : defScope st = sc) (Sc : FnScope N ps sc) (hm : mg x = some (.ref f))
    (hb : ∀ (kV doc pm : Value) (an : Option Addr) (cdv ct : Value) (us : List Value), us.length = ps.length → bindArgs (PySem.W.fnOf x qual (defArgs st) (defBody st) (defScope st) .none kV doc pm an cdv ct) ⟨us, []⟩ = pure (ps.zip us)) (hlen : ps.length ≤ N.length) (hn : ps.length = n) {cod : Option (Addr × Str)}
    (h : SVs ⟨P, w, K, mg, base, N, sc, fun _ => true, k, true, none, cn, true, cod⟩ (defBody st) g) (hco : cod = none ∨ (f = He.fAd K (x, none) ∧ cod = some (He.codeOf K (x, none), qual ++ ".<locals>.")) := by exact Or.inl rfl) : FnD P w K mg base cn (k + 1) x n (fnF N g) := by
  subst hsc
  subst hn
  exact fn_body (BV.fun_of F) Sc hm (F.bindsN hb) hlen hco h
theorem fn_defL {P : Program} {w : World} {K : PySem.W.Frag} {mg : Str → Option Value} {base : Heap} {cn : Bool} {k : Nat} {x qual : Str} {st : Stmt} {f : Addr} {fd : FuncData} {N ps : List Str} {g : SS} {sc : Scope} {n : Nat}
    (F : FunD K x qual (defArgs st) (defBody st) (defScope st) [] [] f fd) (hsc : defScope st = sc) (Sc : FnScope N ps sc) (hlen : ps.length ≤ N.length) (hn : ps.length = n) {cod : Option (Addr × Str)}
    (h : SVs ⟨P, w, K, mg, base, N, sc, fun _ => true, k, true, none, cn, true, cod⟩ (defBody st) g) (hco : cod = none ∨ (f = He.fAd K (x, none) ∧ cod = some (He.codeOf K (x, none), qual ++ ".<locals>.")) := by exact Or.inl rfl) : FnOk P w K mg base (CXg cn P w) (k + 1) f fd ps (spD K mg n (fnF N g)) := by
  subst hsc
  subst hn
  exact fn_ok (BV.fun_of F) Sc hlen hco h
end BV
/-! The by-value calculus: a law's end. -/
namespace BV
open PySem PySem.Spec PyProof.Rows L2

theorem bty_int : bootBuiltins "int" = some (.type "int") := by decide +kernel
theorem bty_str : bootBuiltins "str" = some (.type "str") := by decide +kernel
theorem bty_bool : bootBuiltins "bool" = some (.type "bool") := by decide +kernel
theorem bty_list : bootBuiltins "list" = some (.type "list") := by decide +kernel
theorem bty_tuple : bootBuiltins "tuple" = some (.type "tuple") := by decide +kernel
theorem bty_dict : bootBuiltins "dict" = some (.type "dict") := by decide +kernel
/-- a law: F gives the written part, the function object, the promise over every base -/
theorem walk_ofCX {l : PySem.W.OpenLaw} {n k : Nat} {q : Program} {loose : List Str} {XP : (Str → Option Value) → Heap → Prop} {YP : World → Heap → Prop} {d : DefRec} {CX : World → CXT} {x : Str}
    (hn : l.most = some n) (hn2 : n ≤ sizeLine) (hdf : d.params.defaults = []) (hr : Room k callerA)
    (F : ∀ (w : World) (mg : Str → Option Value) (fa : Addr) (h : Heap), YP w h → h.Ns mainGlobals mg → mg d.name = some (.ref fa) →
      ∃ (K : PySem.W.Frag) (fd : FuncData) (sp : Sp), K.In h ∧ (∀ (s : Shared) (u : Value), BindsTo s fd ⟨[u], []⟩ [(x, u)]) ∧
        (∀ (H : Hp) (a : Addr) (ns : List Int), ns.length ≤ n → Only H → SqL K H a (ns.map V.int) → sp [.ref a] H (fun v _ => v = .bl true) fun _ _ _ => False) ∧
        ∀ base : Heap, K.In base → base.Ns mainGlobals mg → FnOk l.prog w K mg base (CX w) k fa fd [x] sp)
    (hCX : ∀ (w : World) (H : Hp) (s : Shared) (e : Value) (s' : Shared), CX w [] H s (fun _ _ _ => False) e s' → False) :
    PySem.W.WalkO q loose XP YP l.row.toRowW d [] (fun f vs => PySem.call f vs) := by
  refine Att.attach_call hn hdf fun w s₀ s₁ mg mb fa o pm cd doc a vs ns G Y ho hd hcd hmg hobj hints hlen hg => ?_
  obtain ⟨K, fd, sp, KX, hb, hsp, hF⟩ := F w mg fa _ Y G.T.g hmg
  exact law_call KX G.T.g G.T.b G.T.builtins G.T.nolimit hg hobj hints (Nat.le_trans hlen hn2) hr hF hb (fun H hO hS => hsp H a ns hlen hO hS) fun H e s' => hCX w H s₁ e s'
theorem cx_no {cn : Bool} {P : Program} (w : World) (H : Hp) (s : Shared) (e : Value) (s' : Shared) (h : CXg cn P w [] H s (fun _ _ _ => False) e s') : False := by
  cases cn <;> exact h.choose_spec.choose_spec.choose_spec.choose_spec.choose_spec.2.2.2.2.2.2.2
/-- the law's promise from its semantic function -/
theorem law_sp {K : PySem.W.Frag} {mg : Str → Option Value} {f : Fn} {H : Hp} {a : Addr} {ns : List Int} (hl : ns.length ≤ 63) (hS : SqL K H a (ns.map V.int)) (hf : ∃ S, f [.scr ns] [] = .ok (.val (.bool true)) S) : spD K mg 1 f [.ref a] H (fun v _ => v = .bl true) fun _ _ _ => False := by
  obtain ⟨S, e⟩ := hf
  refine ⟨rfl, [.scr ns], [], fun _ => none, [], ⟨rfl, fun i v t e1 e2 => ?_⟩, fun a w h => (nomatch h), ⟨rfl, fun n a k e => (by simp at e), fun a h => absurd rfl h⟩, ?_⟩
  · cases i with
    | zero =>
      simp only [List.getElem?_cons_zero, Option.some.injEq] at e1 e2
      subst e1 e2
      refine ⟨⟨a, rfl, Nat.le_trans hl (by decide), ?_⟩, rfl⟩
      rcases hS with (h | ⟨ob, h⟩) | h
      · exact .inr (.inl ⟨h, rfl⟩)
      · exact .inl ⟨ob, h⟩
      · exact .inr (.inr h)
    | succ i => simp at e1
  · rw [e]
    intro v o' c' H' s cs ns' r
    exact (show Rep K o' H' v (.bool true) from r).blV
end BV
/-! The by-value calculus: all, any, sum. -/
namespace BV
open PySem L2

def boolsOf : List D → Option (List Bool)
  | [] => some []
  | .bool b :: ds => (boolsOf ds).map (b :: ·)
  | _ :: _ => none
def intsOf : List D → Option (List Int)
  | [] => some []
  | .int b :: ds => (intsOf ds).map (b :: ·)
  | _ :: _ => none
def strsOf : List D → Option (List Str)
  | [] => some []
  | .str b :: ds => (strsOf ds).map (b :: ·)
  | _ :: _ => none
theorem boolsV {K : PySem.W.Frag} {o : Gh} {H : Hp} : ∀ {vs : List V} {ds : List D} {bs : List Bool}, RepAll K o H vs ds → boolsOf ds = some bs → vs = bs.map V.bl
  | _, _, _, .nil, e => by cases e; rfl
  | _, _, _, .cons v d vs ds r ra, e => by
    cases d with
    | bool b =>
      have e' : (boolsOf ds).map (b :: ·) = some _ := e
      cases q : boolsOf ds with
      | none => rw [q] at e'; cases e'
      | some cs =>
        rw [q] at e'
        cases e'
        rw [r.blV, boolsV ra q]
        rfl
    | _ => cases e
theorem intsV {K : PySem.W.Frag} {o : Gh} {H : Hp} : ∀ {vs : List V} {ds : List D} {bs : List Int}, RepAll K o H vs ds → intsOf ds = some bs → vs = bs.map V.int
  | _, _, _, .nil, e => by cases e; rfl
  | _, _, _, .cons v d vs ds r ra, e => by
    cases d with
    | int b =>
      have e' : (intsOf ds).map (b :: ·) = some _ := e
      cases q : intsOf ds with
      | none => rw [q] at e'; cases e'
      | some cs =>
        rw [q] at e'
        cases e'
        rw [r.intV, intsV ra q]
        rfl
    | _ => cases e
theorem strsV {K : PySem.W.Frag} {o : Gh} {H : Hp} : ∀ {vs : List V} {ds : List D} {bs : List Str}, RepAll K o H vs ds → strsOf ds = some bs → vs = bs.map V.str
  | _, _, _, .nil, e => by cases e; rfl
  | _, _, _, .cons v d vs ds r ra, e => by
    cases d with
    | str b =>
      have e' : (strsOf ds).map (b :: ·) = some _ := e
      cases q : strsOf ds with
      | none => rw [q] at e'; cases e'
      | some cs =>
        rw [q] at e'
        cases e'
        rw [r.strV.1, strsV ra q]
        rfl
    | _ => cases e
def gAll : List D → Option T
  | [.list ds] => (boolsOf ds).map fun bs => .val (.bool (bs.all id))
  | _ => none
def gAny : List D → Option T
  | [.list ds] => (boolsOf ds).map fun bs => .val (.bool (bs.any id))
  | _ => none
def gSum : List D → Option T
  | [.list ds] => (intsOf ds).map fun ns => .val (.int ns.sum)
  | _ => none
section
variable {G : Cc}
theorem bf_all (hcm : G.hot = none := by rfl) : BF G "all" gAll := ⟨"all", _, by first | exact boot_all | exact PyProof.Rows.boot_all | decide +kernel, fun X W k => by have := cr_all (X := X) (k.calm hcm); rw [k.K] at this; exact this, by
  intro G' W o c ρ S σ H vs ds t Q hK rs r e p
  rw [← hK] at r ⊢
  unfold gAll at e
  split at e
  · rename_i ds
    obtain ⟨v, rfl, r'⟩ := r.one
    obtain ⟨a, ws, e1, h1, _, z1, ra⟩ := r'.lstV
    subst e1
    cases q : boolsOf ds with
    | none => rw [q] at e; cases e
    | some bs =>
      rw [q] at e; cases e
      exact ⟨a, bs, rfl, by rw [← boolsV ra q]; exact .of h1, post_val (hK ▸ rs) p (.bl _)⟩
  · cases e⟩
theorem bf_any (hcm : G.hot = none := by rfl) : BF G "any" gAny := ⟨"any", _, by first | exact boot_any | exact PyProof.Rows.boot_any | decide +kernel, fun X W k => by have := cr_any (X := X) (k.calm hcm); rw [k.K] at this; exact this, by
  intro G' W o c ρ S σ H vs ds t Q hK rs r e p
  rw [← hK] at r ⊢
  unfold gAny at e
  split at e
  · rename_i ds
    obtain ⟨v, rfl, r'⟩ := r.one
    obtain ⟨a, ws, e1, h1, _, z1, ra⟩ := r'.lstV
    subst e1
    cases q : boolsOf ds with
    | none => rw [q] at e; cases e
    | some bs =>
      rw [q] at e; cases e
      exact ⟨a, bs, rfl, by rw [← boolsV ra q]; exact .of h1, post_val (hK ▸ rs) p (.bl _)⟩
  · cases e⟩
theorem bf_sum (hcm : G.hot = none := by rfl) : BF G "sum" gSum := ⟨"sum", _, by first | exact boot_sum | exact PyProof.Rows.boot_sum | decide +kernel, fun X W k => by have := cr_sum (X := X) (k.calm hcm); rw [k.K] at this; exact this, by
  intro G' W o c ρ S σ H vs ds t Q hK rs r e p
  rw [← hK] at r ⊢
  unfold gSum at e
  split at e
  · rename_i ds
    obtain ⟨v, rfl, r'⟩ := r.one
    obtain ⟨a, ws, e1, h1, _, z1, ra⟩ := r'.lstV
    subst e1
    cases q : intsOf ds with
    | none => rw [q] at e; cases e
    | some bs =>
      rw [q] at e; cases e
      exact ⟨a, bs, rfl, by rw [← intsV ra q]; exact .of h1, post_val (hK ▸ rs) p (.int _)⟩
  · cases e⟩
end
end BV
/-! The by-value calculus: methods that change nothing, str(..), f-texts, xs[::-1]. -/
namespace BV
open PySem L2

/-- a method's rule, by values -/
def MetD (K : PySem.W.Frag) (Ty : String) (r : V → List V → Hp → VK → Prop) (g : D → List D → Option T) : Prop := ∀ (G : Cc) (W : WX) (o : Gh) (c : Cs) (ρ : En) (S : Sto) (σ : L2.St) (H : Hp) (x : V) (d : D) (vs : List V) (ds : List D) (t : T) (Q : VK), G.K = K → RS K o c ρ S σ H →
  RepU K o H x d → RepUs K o H vs ds → g d ds = some t → PostE G W o c ρ σ H (.ok t S) Q → r x vs H Q
structure MD (G : Cc) (Ty : String) (nm : Str) (g : D → List D → Option T) : Prop where
  ex : ∃ (id : String) (r : V → List V → Hp → VK → Prop), PlainAttrs Ty ∧ Slot Ty nm id ∧ typeOf (.builtin id) = pure (.type "method_descriptor") ∧ (∀ X W, G.Ok X W → MtR X id r) ∧ MetD G.K Ty r g
/-- of what type the receiver is -/
def recOk (Ty : String) : D → Bool
  | .str _ => decide (Ty = "str")
  | .list _ => decide (Ty = "list")
  | _ => false
def cMeth (Ty : String) (g : D → List D → Option T) (f : SE) (fs : SU) : SE := fun ρ S => R.d (f ρ S) fun d S1 => if recOk Ty d = true then R.l (fs ρ S1) fun ds S2 => (match g d ds with | some t => .ok t S2 | none => .bad) else .bad
theorem recOk_ty {K : PySem.W.Frag} {o : Gh} {H : Hp} {v : V} {d : D} {Ty : String} (r : RepU K o H v d) (h : recOk Ty d = true) : tyV K Ty v H := by
  cases d with
  | str x =>
    rw [r.strV.1]
    show Ty = "str"
    exact of_decide_eq_true h
  | list xs =>
    obtain ⟨a, vs, e, h1, _⟩ := r.lstV
    rw [e]
    exact .inl ⟨of_decide_eq_true h, vs, .of h1⟩
  | _ => cases h
section
variable {G : Cc} {W : WX} {pos : Pos} {e : Expr} {es : List Expr} {ob : Expr} {f : SE} {fu : SU} {Ty : String} {nm : Str} {g : D → List D → Option T} {ap cp : Pos}
theorem er_meth {t : TE} {ta : TA} {r : V → List V → Hp → VK → Prop} (h : URd G W t f) (ha : UAR G W ta fu) (hm : MetD G.K Ty r g) : ER G W (tBM G.K Ty r t ta) (cMeth Ty g f fu) := by
  intro σ H ρ S o c Q nt rs p
  refine h.d nt rs p fun d S1 v o1 c1 H1 s1 nt1 rs1 r1 p1 => ?_
  by_cases hr : recOk Ty d = true
  · simp only [if_pos hr] at p1
    refine ⟨recOk_ty r1 hr, ha.d (Q := fun xs H2 => r v xs H2 Q) nt1 rs1 p1 fun ds S2 vs o2 c2 H2 s2 nt2 rs2 r2 p2 => ?_⟩
    cases e : g d ds with
    | none => rw [e] at p2; exact p2.elim
    | some t => rw [e] at p2; exact hm G W o2 c2 ρ S2 σ H2 v d vs ds t Q rfl rs2 (r1.step rs1.cs.trk s2) r2 e p2
  · simp only [if_neg hr] at p1; exact p1.elim
theorem er_meth0 {t : TE} {r : V → List V → Hp → VK → Prop} (h : URd G W t f) (hm : MetD G.K Ty r g) : ER G W (tBM0 G.K Ty r t) (cMeth Ty g f uNil) := by
  intro σ H ρ S o c Q nt rs p
  refine h.d nt rs p fun d S1 v o1 c1 H1 s1 nt1 rs1 r1 p1 => ?_
  by_cases hr : recOk Ty d = true
  · simp only [if_pos hr] at p1
    refine ⟨recOk_ty r1 hr, ?_⟩
    unfold uNil at p1
    rw [R.l_ok] at p1
    cases e : g d [] with
    | none => simp only [e] at p1; exact p1.elim
    | some t => simp only [e] at p1; exact hm G W o1 c1 ρ S1 σ H1 v d [] [] t Q rfl rs1 r1 trivial e p1
  · simp only [if_neg hr] at p1; exact p1.elim
/-- o.m(e, ..) -/
theorem ev_meth (L : MD G Ty nm g) (ho : UV G ob f) (ha : UAV G (e :: es) fu)
    (hbase : ∀ env : PySem.Env, attributeBase ob nm env (eval ob env) = eval ob env := by intro _; rfl)
    (hfew : ∀ env : PySem.Env, ((backTo cp (starEach (e :: es) env)).all (fun x => !x.1) && (backToKw cp (keywordEach [] env)).all (fun x => x.1.isSome) && decide ((e :: es).length + ([] : List Keyword).length + (if ([] : List Keyword).isEmpty then 0 else 1) < 30)) = true := by intro _; rfl)
    (hline : (ap.endLine == cp.line) = true := by rfl) (hs : ∀ env : PySem.Env, starEach (e :: es) env = (false, eval e env) :: starEach es env := by intro _; rfl) (hpl : ∀ env : PySem.Env, (backTo cp (starEach es env)).any (·.1) = false := by intro _; rfl) :
    EV G (.Call (.Attribute ob nm ap) (e :: es) [] cp) (cMeth Ty g f fu) := by
  obtain ⟨t, pp, q⟩ := ho
  obtain ⟨ta, pa, qa⟩ := ha
  obtain ⟨id, r, pl, sl, ty, hr, hm⟩ := L.ex
  refine ⟨fun W => tBM G.K Ty r (t W) (ta W), fun X W k => ?_, fun W => er_meth (q W) (qa W) hm⟩
  have := pe_bm (X := X) pl sl ty (hr X W k) (pp X W k) (pa X W k) (hbase _) (hfew _) hline (hs _) (hpl _)
  rw [k.K] at this
  exact this
theorem ev_meth0 (L : MD G Ty nm g) (ho : UV G ob f) (hbase : ∀ env : PySem.Env, attributeBase ob nm env (eval ob env) = eval ob env := by intro _; rfl) (hline : (ap.endLine == cp.line) = true := by rfl) :
    EV G (.Call (.Attribute ob nm ap) [] [] cp) (cMeth Ty g f uNil) := by
  obtain ⟨t, pp, q⟩ := ho
  obtain ⟨id, r, pl, sl, ty, hr, hm⟩ := L.ex
  refine ⟨fun W => tBM0 G.K Ty r (t W), fun X W k => ?_, fun W => er_meth0 (q W) hm⟩
  have := pe_bm0 (X := X) (cpos := cp) pl sl ty (hr X W k) (pp X W k) (hbase _) hline
  rw [k.K] at this
  exact this
/-! ### the methods -/
def joinOk (x : Str) (ys : List Str) : Bool := decide ((ys.map (·.length)).sum + ys.length * x.length ≤ 16777216)
def mJoin : D → List D → Option T
  | .str x, [.list ds] => (strsOf ds).bind fun ys => if joinOk x ys && PyData.strOk (Txt.join x ys) && decide ((Txt.join x ys).length ≤ sizeLine) then some (.val (.str (Txt.join x ys))) else none
  | _, _ => none
theorem md_join : MD G "str" "join" mJoin := ⟨"str.join", _, PySem.F.plainAttrs_str, PySem.F.slot_str_join, PySem.F.type_str_join, fun X W k => by have := mt_join (X := X); rw [k.K] at this; exact this, by
  intro G' W o c ρ S σ H x d vs ds t Q hK rs r ra e p
  rw [← hK] at r ra ⊢
  unfold mJoin at e
  split at e
  · rename_i y es
    obtain ⟨v, rfl, rv⟩ := ra.one
    obtain ⟨a, ws, rfl, h1, _, z1, rw1⟩ := rv.lstV
    cases q : strsOf es with
    | none => rw [q] at e; cases e
    | some ys =>
      rw [q, Option.bind_some] at e
      split at e
      · rename_i hh
        cases e
        simp only [Bool.and_eq_true] at hh
        obtain ⟨e1, _, _⟩ := r.strV
        exact ⟨y, a, ys, e1, rfl, .inl (by rw [← strsV rw1 q]; exact .of h1), of_decide_eq_true hh.1.1, post_val (hK ▸ rs) p (.str _ hh.1.2 (of_decide_eq_true hh.2))⟩
      · cases e
  · cases e⟩
def mCountS : D → List D → Option T
  | .str x, [.str y] => some (.val (.int (Txt.count x y)))
  | _, _ => none
theorem md_countS : MD G "str" "count" mCountS := ⟨"str.count", _, PySem.F.plainAttrs_str, PySem.F.slot_str_count, PySem.F.type_str_count, fun X W k => mt_count, by
  intro G' W o c ρ S σ H x d vs ds t Q hK rs r ra e p
  rw [← hK] at r ra
  unfold mCountS at e
  split at e
  · cases e
    obtain ⟨v, rfl, rv⟩ := ra.one
    exact ⟨_, _, r.strV.1, by rw [rv.strV.1], post_val (hK ▸ rs) p (.int _)⟩
  · cases e⟩
def mEndswith : D → List D → Option T
  | .str x, [.str y] => some (.val (.bool (Txt.endswith x y)))
  | _, _ => none
theorem md_endswith : MD G "str" "endswith" mEndswith := ⟨"str.endswith", _, PySem.F.plainAttrs_str, PySem.F.slot_str_endswith, PySem.F.type_str_endswith, fun X W k => mt_endswith, by
  intro G' W o c ρ S σ H x d vs ds t Q hK rs r ra e p
  rw [← hK] at r ra
  unfold mEndswith at e
  split at e
  · cases e
    obtain ⟨v, rfl, rv⟩ := ra.one
    exact ⟨_, _, r.strV.1, by rw [rv.strV.1], post_val (hK ▸ rs) p (.bl _)⟩
  · cases e⟩
def mSplit : D → List D → Option T
  | .str x, [.str y] => if !(y.length == 0) && decide (x.length + 2 ≤ sizeLine) && (Txt.split x y).all (fun z => PyData.strOk z && decide (z.length ≤ sizeLine)) && decide ((Txt.split x y).length ≤ sizeLine) then some (.own ((Txt.split x y).map PyData.str)) else none
  | _, _ => none
theorem RepAll.strs {K : PySem.W.Frag} {o : Gh} {H : Hp} : ∀ {ys : List Str}, ys.all (fun z => PyData.strOk z && decide (z.length ≤ sizeLine)) = true → RepAll K o H (ys.map V.str) (ys.map PyData.str)
  | [], _ => .nil
  | y :: ys, h => by
    simp only [List.all_cons, Bool.and_eq_true] at h
    exact .cons _ _ _ _ (.str y h.1.1 (of_decide_eq_true h.1.2)) (RepAll.strs h.2)
theorem md_split : MD G "str" "split" mSplit := ⟨"str.split", _, PySem.F.plainAttrs_str, PySem.F.slot_str_split, PySem.F.type_str_split, fun X W k => mt_split, by
  intro G' W o c ρ S σ H x d vs ds t Q hK rs r ra e p
  rw [← hK] at r ra
  unfold mSplit at e
  split at e
  · split at e
    · rename_i hh
      cases e
      simp only [Bool.and_eq_true, Bool.not_eq_true'] at hh
      obtain ⟨v, rfl, rv⟩ := ra.one
      exact ⟨_, _, r.strV.1, by rw [rv.strV.1], hh.1.1.1, of_decide_eq_true hh.1.1.2, fun q n => post_own (hK ▸ rs) p n (by rw [List.length_map]; exact of_decide_eq_true hh.2) (RepAll.strs hh.1.2)⟩
    · cases e
  · cases e⟩
def mStripC : D → List D → Option T
  | .str x, [.str y] => if PyData.strOk (Txt.stripChars x y) && decide ((Txt.stripChars x y).length ≤ sizeLine) then some (.val (.str (Txt.stripChars x y))) else none
  | _, _ => none
theorem md_strip : MD G "str" "strip" mStripC := ⟨"str.strip", _, PySem.F.plainAttrs_str, PySem.F.slot_str_strip, PySem.F.type_str_strip, fun X W k => mt_stripChars, by
  intro G' W o c ρ S σ H x d vs ds t Q hK rs r ra e p
  rw [← hK] at r ra
  unfold mStripC at e
  split at e
  · split at e
    · rename_i hh
      cases e
      simp only [Bool.and_eq_true] at hh
      obtain ⟨v, rfl, rv⟩ := ra.one
      obtain ⟨e1, _, e2⟩ := r.strV
      exact ⟨_, _, e1, by rw [rv.strV.1], e2, post_val (hK ▸ rs) p (.str _ hh.1 (of_decide_eq_true hh.2))⟩
    · cases e
  · cases e⟩
/-! ### list.count, by data -/
def rCountD (K : PySem.W.Frag) : V → List V → Hp → VK → Prop := fun x xs H Q => ∃ (a : Addr) (y : V) (d : PyData) (ds : List PyData), x = V.ref a ∧ xs = [y] ∧ Dp K H (V.ref a) (.list ds) ∧ Dp K H y d ∧ SeqAt.shaped (.list ds) = true ∧ SeqAt.shaped d = true ∧ Q (.int ((ds.countP fun e => PyData.eqv e d : Nat) : Int)) H
theorem mt_countD {X : Cx} (hu : X.A.units + 65 < cLine) : MtR X "list.count" (rCountD X.K) := by
  intro pins s σ H x xs v us Q I rx rxs h
  obtain ⟨a, y, d, ds, rfl, rfl, hl, hy, sl, sd, q⟩ := h
  cases rx
  cases rxs with
  | cons ry rt =>
    rename_i uy ut
    cases rt
    obtain ⟨bs, r1⟩ := Dp.reads I d y uy hy ry
    have hxs : PyData.canLayAll0 ds = true := SeqAt.canLay_of_shaped sl
    have hroom : X.A.units + 1 + min (PyData.depthAll ds) d.depth < cLine := PyProof.Rows.room_in_shaped sd hu
    cases hl with
    | lst hs ha =>
      obtain ⟨its, rv, ⟨⟨cls, dd, data, sls⟩, n, ho, hc, hdn, hdt⟩, hlen⟩ := I.list hs
      simp only at hc hdt
      subst hc hdt
      obtain ⟨as, h4⟩ := Dp.readsAll I ds _ its ha rv
      have hmap : its.map (SeqAt.readOf s.heap) = ds := SeqAt.readsAll_map ds its as hxs h4
      have ec : its.toArray.toList.countP (fun u => PyData.eqv (SeqAt.readOf s.heap u) d) = ds.countP fun e => PyData.eqv e d := by
        rw [← hmap, List.countP_map]
        rfl
      refine call_meets PySem.F.slot_list_count ⟨_, ho, rfl⟩ PySem.F.entry_list_count (PySem.F.args_list_count_2 _ _)
        (SeqAt.list_countAt a its.toArray n dd sls uy (fun u => PyData.eqv (SeqAt.readOf s.heap u) d)) ⟨ho, SeqAt.items_eqAt (vs := its.toArray) (show ReadsAll s.heap its.toArray.toList ds as from h4) r1 hxs (SeqAt.canLay_of_shaped sd) hroom, ?_⟩
      rw [ec]
      exact ⟨.int _, H, I.tok _, ⟨_, rfl⟩, q⟩
def mCountL : D → List D → Option T
  | .list ds, [d] => if eqOk (.list ds) && eqOk d then some (.val (.int ((ds.countP fun e => PyData.eqv e d : Nat) : Int))) else none
  | _, _ => none
theorem md_countL : MD G "list" "count" mCountL := ⟨"list.count", _, PySem.F.plainAttrs_list, PySem.F.slot_list_count, PySem.F.type_list_count, fun X W k => by have := mt_countD (X := X) (by have := k.room.un; omega); rw [k.K] at this; exact this, by
  intro G' W o c ρ S σ H x d vs ds t Q hK rs r ra e p
  rw [← hK] at r ra ⊢
  unfold mCountL at e
  split at e
  · split at e
    · rename_i hh
      cases e
      rw [Bool.and_eq_true] at hh
      have n1 := hh.1
      have n2 := hh.2
      unfold eqOk at n1 n2
      rw [Bool.and_eq_true] at n1 n2
      obtain ⟨v, rfl, rv⟩ := ra.one
      obtain ⟨a, ws, e1, h1, _⟩ := r.lstV
      subst e1
      exact ⟨a, v, _, _, rfl, rfl, r.dp n1.1, rv.dp n2.1, eqOk_shaped r hh.1, eqOk_shaped rv hh.2, post_val (hK ▸ rs) p (.int _)⟩
    · cases e
  · cases e⟩
/-! ### str(..) -/
def strI (i : Int) : Str := Str.ofString (toString i)
def gStr : List D → Option T
  | [.int i] => if decide (i.natAbs.log2 < 1920) && decide ((strI i).length ≤ sizeLine) then some (.val (.str (strI i))) else none
  | [.str x] => some (.val (.str x))
  | _ => none
theorem bt_str : BT G "str" gStr := ⟨"str", _, by first | exact boot_str | exact PyProof.Rows.boot_str, fun X W k => (CallR.or (call_str_int (X := X)) (SkE.call_str_str (X := X))), by
  intro G' W o c ρ S σ H vs ds t Q hK rs r e p
  unfold gStr at e
  split at e
  · split at e
    · rename_i hh
      cases e
      simp only [Bool.and_eq_true] at hh
      obtain ⟨v, rfl, r'⟩ := r.one
      rw [r'.intV]
      exact .inl ⟨_, rfl, of_decide_eq_true hh.1, post_val (hK ▸ rs) p (.str _ (strOk_of _) (of_decide_eq_true hh.2))⟩
    · cases e
  · cases e
    obtain ⟨v, rfl, r'⟩ := r.one
    obtain ⟨e1, e2, e3⟩ := r'.strV
    exact .inr ⟨_, by rw [e1], post_val (hK ▸ rs) p (.str _ e2 e3)⟩
  · cases e⟩
/-! ### xs[::-1] -/
def gRev : D → Option T
  | .list xs => some (.own xs.reverse)
  | _ => none
theorem ev_revL {a : Expr} {f1 : SE} {k0 : Nat} {p1 p2 p3 : Pos} (h : UV G a f1) : EV G (.Subscript a (.Slice none none (some (.UnaryOp .USub (.Constant (.int 1) k0 p1) p2)) p3) pos) (cUn gRev f1) := by
  obtain ⟨t, pp, q⟩ := h
  refine ⟨fun W => tRevL G.K (t W), fun X W k => by have := pe_revL (k := k0) (p1 := p1) (p2 := p2) (p3 := p3) (pos := pos) (pp X W k); rw [k.K] at this; exact this, fun W σ H ρ S o c Q nt rs ps => ?_⟩
  refine (q W).d nt rs ps fun d S1 v o1 c1 H1 s1 nt1 rs1 r1 p1 => ?_
  cases d with
  | list xs =>
    obtain ⟨a, vs, rfl, h1, _, z1, ra⟩ := r1.lstV
    exact ⟨a, vs, rfl, .of h1, fun p n => post_own rs1 p1 n (by rw [List.length_reverse]; exact z1) ra.reverse⟩
  | _ => exact p1.elim
end
end BV
/-! The by-value calculus: f-texts. -/
namespace BV
open PySem L2

def gFmt : D → Option T
  | .str x => some (.val (.str x))
  | .int i => if decide (i.natAbs.log2 < 1920) && decide ((strI i).length ≤ sizeLine) then some (.val (.str (strI i))) else none
  | _ => none
section
variable {G : Cc} {W : WX} {pos : Pos} {e : Expr} {es : List Expr} {f : SE}
theorem ev_fmt (h : UV G e f) : EV G (.FormattedValue e (-1) none pos) (cUn gFmt f) := by
  obtain ⟨t, pp, q⟩ := h
  refine ⟨fun W => tFmt (t W), fun X W k => pe_fmt (pp X W k), fun W σ H ρ S o c Q nt rs ps => ?_⟩
  refine (q W).d nt rs ps fun d S1 v o1 c1 H1 s1 nt1 rs1 r1 p1 => ?_
  cases d with
  | str x =>
    obtain ⟨e1, h1, h2⟩ := r1.strV
    exact .inl ⟨x, e1, h2, post_val rs1 p1 (.str x h1 h2)⟩
  | int i =>
    simp only [gFmt] at p1
    by_cases hh : (decide (i.natAbs.log2 < 1920) && decide ((strI i).length ≤ sizeLine)) = true
    · rw [if_pos hh] at p1
      rw [Bool.and_eq_true] at hh
      exact .inr ⟨i, r1.intV, of_decide_eq_true hh.1, post_val rs1 p1 (.str _ (strOk_of _) (of_decide_eq_true hh.2))⟩
    · rw [if_neg hh] at p1; exact p1.elim
  | _ => exact p1.elim
abbrev SJ := Str → En → Sto → R T
def JR (G : Cc) (W : WX) (ts : List TE) (f : SJ) : Prop := ∀ (σ : L2.St) (H : Hp) (ρ : En) (S : Sto) (o : Gh) (c : Cs) (acc : Str) (Q : VK), NT o → RS G.K o c ρ S σ H → PyData.strOk acc = true → acc.length ≤ sizeLine → PostE G W o c ρ σ H (f acc ρ S) Q → tJs ts acc σ H fun out H1 => Q (.str out) H1
def JV (G : Cc) (es : List Expr) (f : SJ) : Prop := ∃ ts : WX → List TE, (∀ X W, G.Ok X W → PJ X es (ts W)) ∧ ∀ W, JR G W (ts W) f
def jNil : SJ := fun acc _ S => .ok (.val (.str acc)) S
def jCons (f : SE) (g : SJ) : SJ := fun acc ρ S => R.d (f ρ S) fun d S1 => match d with
  | .str y => if (acc ++ y).length ≤ sizeLine then g (acc ++ y) ρ S1 else .bad
  | _ => .bad
theorem jv_nil : JV G [] jNil := ⟨fun _ => [], fun _ _ _ => .nil, fun W σ H ρ S o c acc Q nt rs h1 h2 p => post_val rs p (.str acc h1 h2)⟩
theorem jv_cons {g : SJ} (h : EV G e f) (h2 : JV G es g) : JV G (e :: es) (jCons f g) := by
  obtain ⟨t, pp, q⟩ := h
  obtain ⟨ts, ps, qs⟩ := h2
  refine ⟨fun W => t W :: ts W, fun X W k => .cons (pp X W k) (ps X W k), fun W σ H ρ S o c acc Q nt rs h1 h2 p => ?_⟩
  refine (q W).d nt rs p fun d S1 v o1 c1 H1 s1 nt1 rs1 r1 p1 => ?_
  cases d with
  | str y =>
    obtain ⟨e1, k1, k2⟩ := r1.strV
    by_cases hh : (acc ++ y).length ≤ sizeLine
    · simp only [if_pos hh] at p1
      exact ⟨y, e1, hh, qs W σ H1 ρ S1 o1 c1 (acc ++ y) Q nt1 rs1 (strOk_append h1 k1) hh p1⟩
    · simp only [if_neg hh] at p1; exact p1.elim
  | _ => exact p1.elim
def cJs (g : SJ) : SE := fun ρ S => g Str.empty ρ S
theorem ev_js {e2 : Expr} {g : SJ} (h : JV G (e :: e2 :: es) g) : EV G (.JoinedStr (e :: e2 :: es) pos) (cJs g) := by
  obtain ⟨ts, ps, qs⟩ := h
  exact ⟨fun W => fun σ H Q => tJs (ts W) Str.empty σ H fun out H1 => Q (.str out) H1, fun X W k => pe_joined (ps X W k), fun W σ H ρ S o c Q nt rs p => qs W σ H ρ S o c Str.empty Q nt rs (by decide +kernel) (by decide +kernel) p⟩
theorem ev_js1 (h : EV G e f) : EV G (.JoinedStr [e] pos) f := by
  obtain ⟨t, pp, q⟩ := h
  exact ⟨t, fun X W k => pe_joined1 (pp X W k), q⟩
end
end BV
/-! The by-value calculus: evaluation by simp, loops by invariants. -/
namespace BV
open PySem L2

/-- as long as a line may be -/
def lineB (n : Nat) : Bool := decide (n ≤ sizeLine)
theorem lineB_iff (n : Nat) : (lineB n = true) = (n ≤ sizeLine) := by
  unfold lineB
  exact propext ⟨of_decide_eq_true, decide_eq_true⟩
theorem lineB_of {n : Nat} (h : n ≤ sizeLine) : lineB n = true := decide_eq_true h
theorem line4096 : 4096 ≤ sizeLine := by decide
@[simp] theorem lineB_0 : lineB 0 = true := lineB_of (Nat.le_trans (show 0 ≤ 4096 by decide) line4096)
@[simp] theorem lineB_1 : lineB 1 = true := lineB_of (Nat.le_trans (show 1 ≤ 4096 by decide) line4096)
@[simp] theorem lineB_2 : lineB 2 = true := lineB_of (Nat.le_trans (show 2 ≤ 4096 by decide) line4096)
@[simp] theorem lineB_3 : lineB 3 = true := lineB_of (Nat.le_trans (show 3 ≤ 4096 by decide) line4096)
@[simp] theorem lineB_4 : lineB 4 = true := lineB_of (Nat.le_trans (show 4 ≤ 4096 by decide) line4096)
@[simp] theorem lineB_5 : lineB 5 = true := lineB_of (Nat.le_trans (show 5 ≤ 4096 by decide) line4096)
@[simp] theorem lineB_6 : lineB 6 = true := lineB_of (Nat.le_trans (show 6 ≤ 4096 by decide) line4096)
@[simp] theorem lineB_7 : lineB 7 = true := lineB_of (Nat.le_trans (show 7 ≤ 4096 by decide) line4096)
@[simp] theorem lineB_8 : lineB 8 = true := lineB_of (Nat.le_trans (show 8 ≤ 4096 by decide) line4096)
@[simp] theorem lineB_9 : lineB 9 = true := lineB_of (Nat.le_trans (show 9 ≤ 4096 by decide) line4096)
@[simp] theorem lineB_10 : lineB 10 = true := lineB_of (Nat.le_trans (show 10 ≤ 4096 by decide) line4096)
@[simp] theorem lineB_11 : lineB 11 = true := lineB_of (Nat.le_trans (show 11 ≤ 4096 by decide) line4096)
@[simp] theorem lineB_12 : lineB 12 = true := lineB_of (Nat.le_trans (show 12 ≤ 4096 by decide) line4096)
@[simp] theorem lineB_13 : lineB 13 = true := lineB_of (Nat.le_trans (show 13 ≤ 4096 by decide) line4096)
@[simp] theorem lineB_14 : lineB 14 = true := lineB_of (Nat.le_trans (show 14 ≤ 4096 by decide) line4096)
@[simp] theorem lineB_15 : lineB 15 = true := lineB_of (Nat.le_trans (show 15 ≤ 4096 by decide) line4096)
@[simp] theorem lineB_16 : lineB 16 = true := lineB_of (Nat.le_trans (show 16 ≤ 4096 by decide) line4096)
@[simp] theorem lineB_17 : lineB 17 = true := lineB_of (Nat.le_trans (show 17 ≤ 4096 by decide) line4096)
@[simp] theorem lineB_18 : lineB 18 = true := lineB_of (Nat.le_trans (show 18 ≤ 4096 by decide) line4096)
@[simp] theorem lineB_19 : lineB 19 = true := lineB_of (Nat.le_trans (show 19 ≤ 4096 by decide) line4096)
@[simp] theorem lineB_20 : lineB 20 = true := lineB_of (Nat.le_trans (show 20 ≤ 4096 by decide) line4096)
@[simp] theorem lineB_21 : lineB 21 = true := lineB_of (Nat.le_trans (show 21 ≤ 4096 by decide) line4096)
@[simp] theorem lineB_22 : lineB 22 = true := lineB_of (Nat.le_trans (show 22 ≤ 4096 by decide) line4096)
@[simp] theorem lineB_23 : lineB 23 = true := lineB_of (Nat.le_trans (show 23 ≤ 4096 by decide) line4096)
@[simp] theorem lineB_24 : lineB 24 = true := lineB_of (Nat.le_trans (show 24 ≤ 4096 by decide) line4096)
@[simp] theorem lineB_25 : lineB 25 = true := lineB_of (Nat.le_trans (show 25 ≤ 4096 by decide) line4096)
@[simp] theorem lineB_26 : lineB 26 = true := lineB_of (Nat.le_trans (show 26 ≤ 4096 by decide) line4096)
@[simp] theorem lineB_27 : lineB 27 = true := lineB_of (Nat.le_trans (show 27 ≤ 4096 by decide) line4096)
@[simp] theorem lineB_28 : lineB 28 = true := lineB_of (Nat.le_trans (show 28 ≤ 4096 by decide) line4096)
@[simp] theorem lineB_29 : lineB 29 = true := lineB_of (Nat.le_trans (show 29 ≤ 4096 by decide) line4096)
@[simp] theorem lineB_30 : lineB 30 = true := lineB_of (Nat.le_trans (show 30 ≤ 4096 by decide) line4096)
@[simp] theorem lineB_31 : lineB 31 = true := lineB_of (Nat.le_trans (show 31 ≤ 4096 by decide) line4096)
@[simp] theorem lineB_32 : lineB 32 = true := lineB_of (Nat.le_trans (show 32 ≤ 4096 by decide) line4096)
section
variable {f f1 f2 f3 : SE} {g g1 g2 : SS} {fs : SA} {fu : SU} {b b1 b2 : SB} {ρ ρ' : En} {S S' S1 : Sto} {t : T} {e : Exc} {i : Nat} {d : D}
@[simp] theorem e_seq : sSeq g1 g2 ρ S = (g1 ρ S).then g2 := rfl
@[simp] theorem e_then_nx : (Fl.nx ρ S).then g = g ρ S := rfl
@[simp] theorem e_then_bk : (Fl.bk ρ S).then g = .bk ρ S := rfl
@[simp] theorem e_then_ct : (Fl.ct ρ S).then g = .ct ρ S := rfl
@[simp] theorem e_then_rt : (Fl.rt t S).then g = .rt t S := rfl
@[simp] theorem e_then_ex : (Fl.ex e ρ S).then g = .ex e ρ S := rfl
@[simp] theorem e_skip : sSkip ρ S = .nx ρ S := rfl
@[simp] theorem e_sE {k} : sE f k ρ S = (match f ρ S with | .ok t S1 => k t ρ S1 | .exc e S1 => .ex e ρ S1 | .bad => .bad) := rfl
@[simp] theorem e_sD {k} : sD f k ρ S = sE f (fun t ρ S => match asD t with | some d => k d ρ S | none => .bad) ρ S := rfl
@[simp] theorem e_asg : sAsg i f ρ S = sE f (fun t ρ S => .nx (ρ.set i (some t)) S) ρ S := rfl
@[simp] theorem e_asgC : sAsgC i f ρ S = sAsg i (cCel f) ρ S := rfl
@[simp] theorem e_cCel : cCel f ρ S = (match f ρ S with | .ok t S1 => (match toCe t with | some k => .ok (.cel S1.length) (S1 ++ [k]) | none => .bad) | .exc e S1 => .exc e S1 | .bad => .bad) := rfl
@[simp] theorem e_toCe_own {xs} : toCe (.own xs) = some (.lst xs) := rfl
@[simp] theorem e_toCe_ownd {q kvs} : toCe (.ownd q kvs) = some (.dct q kvs) := rfl
@[simp] theorem e_ret : sRet f ρ S = sE f (fun t _ S => .rt t S) ρ S := rfl
@[simp] theorem e_retN : sRetN ρ S = .rt (.val .none) S := rfl
@[simp] theorem e_retV : sRetV i ρ S = (match ρ[i]? with | some (some t) => .rt t S | _ => .bad) := rfl
@[simp] theorem e_if : sIf b g1 g2 ρ S = (match b ρ S with | .ok c S1 => if c = true then g1 ρ S1 else g2 ρ S1 | .exc e S1 => .ex e ρ S1 | .bad => .bad) := rfl
@[simp] theorem e_expr : sExpr f ρ S = sE f (fun _ ρ S => .nx ρ S) ρ S := rfl
@[simp] theorem e_brk : sBrk ρ S = .bk ρ S := rfl
@[simp] theorem e_cnt : sCnt ρ S = .ct ρ S := rfl
@[simp] theorem e_for {src : SI} {bb : BT1} : sFor src bb g ρ S = (match src ρ S with | .ok ds S1 => forL bb g ds ρ S1 | .exc e S1 => .ex e ρ S1 | .bad => .bad) := rfl
@[simp] theorem e_fz : sFz i g ρ S = (match fz i ρ with | some ρ' => g ρ' S | none => .bad) := rfl
@[simp] theorem e_fzi : fz i ρ = (match ρ[i]? with | some (some t) => (asD t).map fun d => ρ.set i (some (.val d)) | _ => none) := rfl
@[simp] theorem e_aug {h : Int → Int → Int} : sAug i h f ρ S = (match ρ[i]? with | some (some (.val (.int a))) => sD f (fun d ρ S => match d with | .int b => .nx (ρ.set i (some (.val (.int (h a b))))) S | _ => .bad) ρ S | _ => .bad) := rfl
@[simp] theorem e_set : sSet i f1 f2 ρ S = sE f2 (fun t ρ S => match asD t with
  | none => .bad
  | some d => match ρ[i]? with
    | some (some (.own xs)) => sD f1 (fun di ρ S => match di with
      | .int j => (match ixN xs.length j with | some k => .nx (ρ.set i (some (.own (xs.set k d)))) S | none => .bad)
      | _ => .bad) ρ S
    | some (some (.ownd q kvs)) => sD f1 (fun di ρ S => match dSet q kvs di d with
      | some kvs' => .nx (ρ.set i (some (.ownd q kvs'))) S
      | none => .bad) ρ S
    | _ => .bad) ρ S := rfl
@[simp] theorem e_setC : sSetC i f1 f2 ρ S = sE f2 (fun t ρ S => match asD t with
  | none => .bad
  | some d => match ρ[i]? with
    | some (some (.cel n)) => sD f1 (fun di ρ S => match S[n]? with
      | some (.lst xs) => (match di with
        | .int j => (match ixN xs.length j with | some k => .nx ρ (S.set n (.lst (xs.set k d))) | none => .bad)
        | _ => .bad)
      | some (.dct q kvs) => (match dSet q kvs di d with | some kvs' => .nx ρ (S.set n (.dct q kvs')) | none => .bad)
      | _ => .bad) ρ S
    | _ => .bad) ρ S := rfl
@[simp] theorem e_sA {α : Type} {h : En → Sto → R α} {k} : sA h k ρ S = (match h ρ S with | .ok t S1 => k t ρ S1 | .exc e S1 => .ex e ρ S1 | .bad => .bad) := rfl
@[simp] theorem e_drop : kDrop d ρ S = .nx ρ S := rfl
@[simp] theorem e_var : cVar i ρ S = (match ρ[i]? with | some (some (.val d)) => .ok (.val d) S | some (some (.cel n)) => .ok (.cel n) S | some (some (.scr ns)) => .ok (.scr ns) S | some (some (.exn a C d e)) => .ok (.exn a C d e) S | _ => .bad) := rfl
@[simp] theorem e_varU : cVarU i ρ S = (match ρ[i]? with | some (some (.val d)) => .ok (.val d) S | some (some (.own xs)) => .ok (.own xs) S | some (some (.ownd q kvs)) => .ok (.ownd q kvs) S | _ => .bad) := rfl
@[simp] theorem e_C : cC d ρ S = .ok (.val d) S := rfl
@[simp] theorem e_bin {h : D → D → Option T} : cBin h f1 f2 ρ S = R.d (f1 ρ S) fun a S1 => R.d (f2 ρ S1) fun b S2 => match h a b with | some t => .ok t S2 | none => .bad := rfl
@[simp] theorem e_un {h : D → Option T} : cUn h f ρ S = R.d (f ρ S) fun a S1 => match h a with | some t => .ok t S1 | none => .bad := rfl
@[simp] theorem e_d_val {k} : R.d (.ok (.val d) S) k = k d S := rfl
@[simp] theorem e_d_own {xs k} : R.d (.ok (.own xs) S) k = k (.list xs) S := rfl
@[simp] theorem e_d_own2 {xs k} : R.d (.ok (.own2 xs) S) k = k (.list (xs.map PyData.list)) S := rfl
@[simp] theorem e_d_exc {k} : R.d (.exc e S) k = .exc e S := rfl
@[simp] theorem e_d_bad {k} : R.d .bad k = .bad := rfl
@[simp] theorem e_l_ok {α β : Type} {t : α} {k : α → Sto → R β} : R.l (.ok t S) k = k t S := rfl
@[simp] theorem e_l_exc {α β : Type} {k : α → Sto → R β} : R.l (.exc e S) k = .exc e S := rfl
@[simp] theorem e_l_bad {α β : Type} {k : α → Sto → R β} : R.l .bad k = .bad := rfl
@[simp] theorem e_asD_val : asD (.val d) = some d := rfl
@[simp] theorem e_asD_own {xs} : asD (.own xs) = some (.list xs) := rfl
@[simp] theorem e_asD_own2 {xs} : asD (.own2 xs) = some (.list (xs.map PyData.list)) := rfl
@[simp] theorem e_asD_cel {n} : asD (.cel n) = none := rfl
@[simp] theorem e_asD_exn {a C d e} : asD (.exn a C d e) = none := rfl
@[simp] theorem e_asD_scr {n} : asD (.scr n) = none := rfl
@[simp] theorem e_asA_val : asA (.val d) = .val d := rfl
@[simp] theorem e_asA_own {xs} : asA (.own xs) = .val (.list xs) := rfl
@[simp] theorem e_asA_own2 {xs} : asA (.own2 xs) = .val (.list (xs.map PyData.list)) := rfl
@[simp] theorem e_asA_cel {n} : asA (.cel n) = .cel n := rfl
@[simp] theorem e_asA_exn {a C d e} : asA (.exn a C d e) = .exn a C d e := rfl
@[simp] theorem e_asA_scr {n} : asA (.scr n) = .scr n := rfl
@[simp] theorem e_aNil : aNil ρ S = .ok [] S := rfl
@[simp] theorem e_aCons : aCons f fs ρ S = R.l (f ρ S) fun t S1 => R.l (fs ρ S1) fun ts S2 => .ok (asA t :: ts) S2 := rfl
@[simp] theorem e_uNil : uNil ρ S = .ok [] S := rfl
@[simp] theorem e_uCons : uCons f fu ρ S = (match f ρ S with | .ok t S1 => (match asD t with | some d => R.l (fu ρ S1) fun ds S2 => .ok (d :: ds) S2 | none => .bad) | .exc e S1 => .exc e S1 | .bad => .bad) := rfl
@[simp] theorem e_call {h : Fn} : cCall h fs ρ S = R.l (fs ρ S) fun ts S1 => h ts S1 := rfl
@[simp] theorem e_list : cList fs ρ S = R.l (fs ρ S) fun ts S1 => match allD ts with | some ds => if lineB ds.length = true then .ok (.own ds) S1 else .bad | none => .bad := by
  unfold cList
  congr 1
  funext ts S1
  cases allD ts with
  | none => rfl
  | some ds =>
    by_cases h : ds.length ≤ sizeLine
    · simp only [if_pos h, if_pos (lineB_of h)]
    · have h2 : ¬ lineB ds.length = true := by rw [lineB_iff]; exact h
      simp only [if_neg h, if_neg h2]
@[simp] theorem e_tup : cTup fs ρ S = R.l (fs ρ S) fun ts S1 => match allD ts with | some ds => if lineB ds.length = true then .ok (.val (.tuple ds)) S1 else .bad | none => .bad := by
  unfold cTup
  congr 1
  funext ts S1
  cases allD ts with
  | none => rfl
  | some ds =>
    by_cases h : ds.length ≤ sizeLine
    · simp only [if_pos h, if_pos (lineB_of h)]
    · have h2 : ¬ lineB ds.length = true := by rw [lineB_iff]; exact h
      simp only [if_neg h, if_neg h2]
@[simp] theorem e_allD_nil : allD [] = some [] := rfl
@[simp] theorem e_allD_cons {ts} : allD (.val d :: ts) = (allD ts).map (d :: ·) := rfl
@[simp] theorem e_B1 {h : List D → Option T} : cB1 h fu ρ S = R.l (fu ρ S) fun ds S1 => match h ds with | some t => .ok t S1 | none => .bad := rfl
@[simp] theorem e_cT : cT f ρ S = (f ρ S).tr := rfl
@[simp] theorem e_cB : cB f ρ S = (f ρ S).b := rfl
@[simp] theorem e_b_val {c} : (R.ok (.val (.bool c)) S).b = .ok c S := rfl
@[simp] theorem e_b_exc : (R.exc e S : R T).b = .exc e S := rfl
@[simp] theorem e_tr_ok : (R.ok t S).tr = (match (asD t).bind truD with | some b => .ok b S | none => .bad) := rfl
@[simp] theorem e_tr_exc : (R.exc e S : R T).tr = .exc e S := rfl
@[simp] theorem e_bAnd : bAnd b1 b2 ρ S = R.l (b1 ρ S) fun c S1 => if c = true then b2 ρ S1 else .ok false S1 := rfl
@[simp] theorem e_bOr : bOr b1 b2 ρ S = R.l (b1 ρ S) fun c S1 => if c = true then .ok true S1 else b2 ρ S1 := rfl
@[simp] theorem e_bNot : bNot b ρ S = R.l (b ρ S) fun c S1 => .ok (!c) S1 := rfl
@[simp] theorem e_vAnd : vAnd f1 f2 ρ S = R.d (f1 ρ S) fun d S1 => match truD d with | some true => f2 ρ S1 | some false => .ok (.val d) S1 | none => .bad := rfl
@[simp] theorem e_vOr : vOr f1 f2 ρ S = R.d (f1 ρ S) fun d S1 => match truD d with | some false => f2 ρ S1 | some true => .ok (.val d) S1 | none => .bad := rfl
@[simp] theorem e_vNot : vNot f ρ S = cUn (fun d => (truD d).map fun b => .val (.bool (!b))) f ρ S := rfl
@[simp] theorem e_cIf : cIf b f1 f2 ρ S = R.l (b ρ S) fun c S1 => if c = true then f1 ρ S1 else f2 ρ S1 := rfl
@[simp] theorem e_scrIx : cScrIx i f ρ S = (match ρ[i]? with | some (some (.scr ns)) => R.d (f ρ S) fun d S1 => (match d with | .int j => (match atI ns j with | some n => .ok (.val (.int n)) S1 | none => .bad) | _ => .bad) | _ => .bad) := rfl
@[simp] theorem e_scrLen : cScrLen i ρ S = (match ρ[i]? with | some (some (.scr ns)) => .ok (.val (.int (ns.length : Int))) S | _ => .bad) := rfl
@[simp] theorem e_celIn {neg : Bool} : cCelIn neg f i ρ S = R.d (f ρ S) fun d S1 => (match ρ[i]? with | some (some (.cel n)) => (match S1[n]? with | some (.dct q kvs) => (match dAtI (mkD q kvs) d with | some o => .ok (.val (.bool (if neg then !o.isSome else o.isSome))) S1 | none => .bad) | _ => .bad) | _ => .bad) := rfl
@[simp] theorem e_celIx : cCelIx i f ρ S = (match ρ[i]? with | some (some (.cel n)) => R.d (f ρ S) fun d S1 => (match d, S1[n]? with | .int j, some (.lst xs) => (match atI xs j with | some x => .ok (.val x) S1 | none => .bad) | _, _ => .bad) | _ => .bad) := rfl
@[simp] theorem e_ix2 : cIx2 i f ρ S = (match ρ[i]? with | some (some (.own2 xss)) => R.d (f ρ S) fun d S1 => (match d with | .int j => (match atI xss j with | some xs => .ok (.own xs) S1 | none => .bad) | _ => .bad) | _ => .bad) := rfl
@[simp] theorem e_noPart : cNoPart ρ S = .ok none S := rfl
@[simp] theorem e_part : cPart f ρ S = (match f ρ S with | .ok t S1 => (match asD t with | some (.int i) => .ok (some i) S1 | _ => .bad) | .exc e S1 => .exc e S1 | .bad => .bad) := rfl
@[simp] theorem e_sl {h1 h2} : cSl f h1 h2 ρ S = R.d (f ρ S) fun d S1 => R.l (h1 ρ S1) fun lo S2 => R.l (h2 ρ S2) fun hi S3 => match gSl d lo hi with | some t => .ok t S3 | none => .bad := rfl
@[simp] theorem e_rng {h} : cRng h fu ρ S = R.l (fu ρ S) fun ds S1 => match h ds with | some xs => .ok xs S1 | none => .bad := rfl
@[simp] theorem e_seqS : cSeq f ρ S = (match f ρ S with | .ok t S1 => (match (asD t).bind seqD with | some ds => .ok ds S1 | none => .bad) | .exc e S1 => .exc e S1 | .bad => .bad) := rfl
@[simp] theorem e_seqD_l {xs} : seqD (.list xs) = some xs := rfl
@[simp] theorem e_seqD_t {xs} : seqD (.tuple xs) = some xs := rfl
@[simp] theorem e_bName : bName i d ρ = some (ρ.set i (some (.val d))) := rfl
@[simp] theorem e_start {n : Nat} {ts : List T} : start0 n ts = ts.map some ++ List.replicate (n - ts.length) none := rfl
theorem e_fn {n : Nat} {ts : List T} : fnL n g ts S = (match g (start0 n ts) S with | .nx _ S' => .ok (.val .none) S' | .rt t S' => .ok t S' | .ex e _ S' => .exc e S' | _ => .bad) := rfl
-- operators
@[simp] theorem g_add_i {i j : Int} : gAdd (.int i) (.int j) = some (.val (.int (i + j))) := rfl
@[simp] theorem g_sub_i {i j : Int} : gSub (.int i) (.int j) = some (.val (.int (i - j))) := rfl
theorem g_mul_i {i j : Int} (h : i.natAbs.log2 + j.natAbs.log2 < 1000000) : gMul (.int i) (.int j) = some (.val (.int (i * j))) := by
  show (if mulOk i j then _ else _) = _
  rw [if_pos (by unfold mulOk; exact decide_eq_true h)]
theorem g_div_i {i j : Int} (h : 0 < j) (h2 : j.natAbs.log2 < 9000) : gDiv (.int i) (.int j) = some (.val (.int (i / j))) := by
  show (if divOk j then _ else _) = _
  rw [if_pos (by unfold divOk; simp [h, h2])]
theorem g_mod_i {i j : Int} (h : 0 < j) : gMod (.int i) (.int j) = some (.val (.int (i % j))) := by
  show (if decide (0 < j) then _ else _) = _
  rw [if_pos (decide_eq_true h)]
theorem g_pow_i {i j : Int} (h : 0 ≤ j) (h2 : j ≤ 1000000) (h3 : i.natAbs < 2 ^ 64) : gPow (.int i) (.int j) = some (.val (.int (i ^ j.toNat))) := by
  show (if decide _ then _ else _) = _
  rw [if_pos (decide_eq_true ⟨h, h2, h3⟩)]
@[simp] theorem g_lt_i {i j : Int} : gLt (.int i) (.int j) = some (.val (.bool (decide (i < j)))) := rfl
@[simp] theorem g_le_i {i j : Int} : gLe (.int i) (.int j) = some (.val (.bool (decide (i ≤ j)))) := rfl
@[simp] theorem g_gt_i {i j : Int} : gGt (.int i) (.int j) = some (.val (.bool (decide (j < i)))) := rfl
@[simp] theorem g_ge_i {i j : Int} : gGe (.int i) (.int j) = some (.val (.bool (decide (j ≤ i)))) := rfl
@[simp] theorem g_neg_i {i : Int} : gNeg (.int i) = some (.val (.int (-i))) := rfl
@[simp] theorem g_eq_i {i j : Int} : gEq false (.int i) (.int j) = some (.val (.bool (decide (i = j)))) := by
  show some (T.val (.bool (PyData.eqv (.int i) (.int j)))) = _
  simp [PyData.eqv]
  try rfl
@[simp] theorem g_ne_i {i j : Int} : gEq true (.int i) (.int j) = some (.val (.bool (decide (i ≠ j)))) := by
  show some (T.val (.bool (!PyData.eqv (.int i) (.int j)))) = _
  simp [PyData.eqv]
  try rfl
@[simp] theorem g_isN : gIsN d = some (.val (.bool (isNone d))) := rfl
@[simp] theorem g_notN : gNotN d = some (.val (.bool (!isNone d))) := rfl
@[simp] theorem n_none : isNone .none = true := rfl
@[simp] theorem n_int {i : Int} : isNone (.int i) = false := rfl
@[simp] theorem n_bool {i : Bool} : isNone (.bool i) = false := rfl
@[simp] theorem n_str {i : Str} : isNone (.str i) = false := rfl
@[simp] theorem n_list {i} : isNone (.list i) = false := rfl
@[simp] theorem n_tuple {i} : isNone (.tuple i) = false := rfl
@[simp] theorem g_ix_l {xs : List D} {j : Int} : gIx (.list xs) (.int j) = (atI xs j).map T.val := rfl
@[simp] theorem g_ix_t {xs : List D} {j : Int} : gIx (.tuple xs) (.int j) = (atI xs j).map T.val := rfl
@[simp] theorem g_ix_s {x : Str} {j : Int} : gIx (.str x) (.int j) = (atI x.cps.toList j).map fun c => .val (.str ⟨#[c]⟩) := rfl
@[simp] theorem g_abs {i : Int} : gAbs [.int i] = some (.val (.int (if i < 0 then -i else i))) := rfl
@[simp] theorem g_min {i j : Int} : gMin2 [.int i, .int j] = some (.val (.int (if j < i then j else i))) := rfl
@[simp] theorem g_max {i j : Int} : gMax2 [.int i, .int j] = some (.val (.int (if j > i then j else i))) := rfl
@[simp] theorem g_len_l {xs : List D} : gLen [.list xs] = some (.val (.int xs.length)) := rfl
@[simp] theorem g_len_t {xs : List D} : gLen [.tuple xs] = some (.val (.int xs.length)) := rfl
@[simp] theorem g_len_s {x : Str} : gLen [.str x] = some (.val (.int x.length)) := rfl
@[simp] theorem g_int_i {i : Int} : gInt1 [.int i] = some (.val (.int i)) := rfl
@[simp] theorem g_int_b {b : Bool} : gInt1 [.bool b] = some (.val (.int (if b then 1 else 0))) := rfl
@[simp] theorem g_tuple_l {xs : List D} : gTuple [.list xs] = some (.val (.tuple xs)) := rfl
@[simp] theorem g_tuple_t {xs : List D} : gTuple [.tuple xs] = some (.val (.tuple xs)) := rfl
@[simp] theorem g_list_l {xs : List D} : gList [.list xs] = some (.own xs) := rfl
@[simp] theorem g_list_t {xs : List D} : gList [.tuple xs] = some (.own xs) := rfl
@[simp] theorem tru_b {b : Bool} : truD (.bool b) = some b := rfl
@[simp] theorem tru_i {i : Int} : truD (.int i) = some (i != 0) := rfl
@[simp] theorem tru_n : truD .none = some false := rfl
@[simp] theorem tru_s {x : Str} : truD (.str x) = some (x.length != 0) := rfl
@[simp] theorem tru_l {x} : truD (.list x) = some (!x.isEmpty) := rfl
@[simp] theorem tru_t {x} : truD (.tuple x) = some (!x.isEmpty) := rfl
end
/-! ### built-ins of lists, methods -/
theorem boolsOf_map (bs : List Bool) : boolsOf (bs.map PyData.bool) = some bs := by
  induction bs with
  | nil => rfl
  | cons b bs ih => simp [boolsOf, ih]
theorem intsOf_map (bs : List Int) : intsOf (bs.map PyData.int) = some bs := by
  induction bs with
  | nil => rfl
  | cons b bs ih => simp [intsOf, ih]
theorem strsOf_map (bs : List Str) : strsOf (bs.map PyData.str) = some bs := by
  induction bs with
  | nil => rfl
  | cons b bs ih => simp [strsOf, ih]
@[simp] theorem g_all_b {bs : List Bool} : gAll [.list (bs.map PyData.bool)] = some (.val (.bool (bs.all id))) := by
  show (boolsOf _).map _ = _
  rw [boolsOf_map]
  rfl
@[simp] theorem g_any_b {bs : List Bool} : gAny [.list (bs.map PyData.bool)] = some (.val (.bool (bs.any id))) := by
  show (boolsOf _).map _ = _
  rw [boolsOf_map]
  rfl
@[simp] theorem g_sum_i {bs : List Int} : gSum [.list (bs.map PyData.int)] = some (.val (.int bs.sum)) := by
  show (intsOf _).map _ = _
  rw [intsOf_map]
  rfl
@[simp] theorem e_meth {Ty : String} {g : D → List D → Option T} {f : SE} {fs : SU} {ρ : En} {S : Sto} : cMeth Ty g f fs ρ S = R.d (f ρ S) fun d S1 => if recOk Ty d = true then R.l (fs ρ S1) fun ds S2 => (match g d ds with | some t => .ok t S2 | none => .bad) else .bad := rfl
@[simp] theorem rec_s {x : Str} : recOk "str" (.str x) = true := rfl
@[simp] theorem rec_l {xs : List D} : recOk "list" (.list xs) = true := rfl
@[simp] theorem g_rev_l {xs : List D} : gRev (.list xs) = some (.own xs.reverse) := rfl
@[simp] theorem e_seqD_s {x : Str} : seqD (.str x) = some (x.cps.toList.map fun c => .str ⟨#[c]⟩) := rfl
/-! ### indices -/
theorem ixN_pos {n : Nat} {i : Int} (h0 : 0 ≤ i) (h1 : i < n) : ixN n i = some i.toNat := by
  unfold L2.ixN
  simp only [h0, if_true]
  rw [if_pos (by omega)]
theorem atI_pos {α : Type} {xs : List α} {i : Int} (h0 : 0 ≤ i) (h1 : i < xs.length) : ∃ v, atI xs i = some v ∧ xs[i.toNat]? = some v := by
  unfold L2.atI
  rw [ixN_pos h0 h1]
  have h : i.toNat < xs.length := by omega
  exact ⟨xs[i.toNat], List.getElem?_eq_getElem h, List.getElem?_eq_getElem h⟩
theorem atI_nat {α : Type} {xs : List α} {i : Nat} {v : α} (h : xs[i]? = some v) : atI xs (i : Int) = some v := by
  unfold L2.atI
  rw [ixN_pos (by omega) (by have := (List.getElem?_eq_some_iff.mp h).1; omega)]
  exact h
theorem atI_of {α : Type} {xs : List α} {i : Int} {v : α} (h0 : 0 ≤ i) (h : xs[i.toNat]? = some v) : atI xs i = some v := by
  unfold L2.atI
  rw [ixN_pos h0 (by have := (List.getElem?_eq_some_iff.mp h).1; omega)]
  exact h
/-! ### loops -/
theorem forL_inv {b : BT1} {body : SS} (I : Nat → En → Sto → Prop) : ∀ (ds : List D) (k : Nat) (ρ : En) (S : Sto), I k ρ S →
    (∀ i d ρ S, ds[i]? = some d → I (k + i) ρ S → ∃ ρ1, b d ρ = some ρ1 ∧ ∃ ρ2 S2, (body ρ1 S = .nx ρ2 S2 ∨ body ρ1 S = .ct ρ2 S2) ∧ I (k + i + 1) ρ2 S2) →
    ∃ ρ' S', forL b body ds ρ S = .nx ρ' S' ∧ I (k + ds.length) ρ' S'
  | [], k, ρ, S, h, _ => ⟨ρ, S, rfl, h⟩
  | d :: ds, k, ρ, S, h, st => by
    obtain ⟨ρ1, e1, ρ2, S2, e2, h2⟩ := st 0 d ρ S rfl h
    have ih := forL_inv I ds (k + 1) ρ2 S2 h2 fun i d' ρ' S' e h' => by
      have := st (i + 1) d' ρ' S' (by simpa using e) (by rw [show k + (i + 1) = k + 1 + i by omega]; exact h')
      rw [show k + (i + 1) = k + 1 + i by omega] at this
      exact this
    obtain ⟨ρ', S', e3, h3⟩ := ih
    refine ⟨ρ', S', ?_, by rw [List.length_cons, show k + (ds.length + 1) = k + 1 + ds.length by omega]; exact h3⟩
    unfold forL
    rw [e1]
    rcases e2 with e2 | e2
    · simp only [e2]; exact e3
    · simp only [e2]; exact e3
/-- a comprehension, by what each item gives -/
theorem lcM_inv {b : BT1} {tt : SB} {elt : SE} {ρ : En} (I : Nat → List D → Sto → Prop) : ∀ (ds : List D) (k : Nat) (ys : List D) (S : Sto), I k ys S →
    (∀ i d ys S, ds[i]? = some d → I (k + i) ys S → ∃ ρ1, b d ρ = some ρ1 ∧ ((∃ S1, tt ρ1 S = .ok false S1 ∧ I (k + i + 1) ys S1) ∨ ∃ S1 t S2 x, tt ρ1 S = .ok true S1 ∧ elt ρ1 S1 = .ok t S2 ∧ asD t = some x ∧ I (k + i + 1) (ys ++ [x]) S2)) →
    ∃ xs S', lcM b tt elt ρ ds S = .ok xs S' ∧ I (k + ds.length) (ys ++ xs) S'
  | [], k, ys, S, h, _ => ⟨[], S, rfl, by rw [List.append_nil]; exact h⟩
  | d :: ds, k, ys, S, h, st => by
    obtain ⟨ρ1, e1, h1⟩ := st 0 d ys S rfl h
    have st' : ∀ i d' ys' S', ds[i]? = some d' → I (k + 1 + i) ys' S' → ∃ ρ1, b d' ρ = some ρ1 ∧ ((∃ S1, tt ρ1 S' = .ok false S1 ∧ I (k + 1 + i + 1) ys' S1) ∨ ∃ S1 t S2 x, tt ρ1 S' = .ok true S1 ∧ elt ρ1 S1 = .ok t S2 ∧ asD t = some x ∧ I (k + 1 + i + 1) (ys' ++ [x]) S2) := fun i d' ys' S' e h' => by
      have := st (i + 1) d' ys' S' (by simpa using e) (by rw [show k + (i + 1) = k + 1 + i by omega]; exact h')
      rw [show k + (i + 1) = k + 1 + i by omega] at this
      exact this
    have el : k + (d :: ds).length = k + 1 + ds.length := by rw [List.length_cons]; omega
    rcases h1 with ⟨S1, e2, h2⟩ | ⟨S1, t, S2, x, e2, e3, e4, h2⟩
    · obtain ⟨xs, S', e5, h5⟩ := lcM_inv I ds (k + 1) ys S1 h2 st'
      refine ⟨xs, S', ?_, by rw [el]; exact h5⟩
      unfold lcM
      simp only [e1, e2]
      exact e5
    · obtain ⟨xs, S', e5, h5⟩ := lcM_inv I ds (k + 1) (ys ++ [x]) S2 h2 st'
      refine ⟨x :: xs, S', ?_, by rw [el]; rw [List.append_assoc] at h5; exact h5⟩
      unfold lcM
      simp only [e1, e2, e3, e4, e5, e_l_ok]
theorem lcM2_inv {b : BT1} {tt : SB} {elt : SE} {ρ : En} (I : Nat → List (List D) → Sto → Prop) : ∀ (ds : List D) (k : Nat) (ys : List (List D)) (S : Sto), I k ys S →
    (∀ i d ys S, ds[i]? = some d → I (k + i) ys S → ∃ ρ1, b d ρ = some ρ1 ∧ ((∃ S1, tt ρ1 S = .ok false S1 ∧ I (k + i + 1) ys S1) ∨ ∃ S1 S2 x, tt ρ1 S = .ok true S1 ∧ elt ρ1 S1 = .ok (.own x) S2 ∧ I (k + i + 1) (ys ++ [x]) S2)) →
    ∃ xs S', lcM2 b tt elt ρ ds S = .ok xs S' ∧ I (k + ds.length) (ys ++ xs) S'
  | [], k, ys, S, h, _ => ⟨[], S, rfl, by rw [List.append_nil]; exact h⟩
  | d :: ds, k, ys, S, h, st => by
    obtain ⟨ρ1, e1, h1⟩ := st 0 d ys S rfl h
    have st' : ∀ i d' ys' S', ds[i]? = some d' → I (k + 1 + i) ys' S' → ∃ ρ1, b d' ρ = some ρ1 ∧ ((∃ S1, tt ρ1 S' = .ok false S1 ∧ I (k + 1 + i + 1) ys' S1) ∨ ∃ S1 S2 x, tt ρ1 S' = .ok true S1 ∧ elt ρ1 S1 = .ok (.own x) S2 ∧ I (k + 1 + i + 1) (ys' ++ [x]) S2) := fun i d' ys' S' e h' => by
      have := st (i + 1) d' ys' S' (by simpa using e) (by rw [show k + (i + 1) = k + 1 + i by omega]; exact h')
      rw [show k + (i + 1) = k + 1 + i by omega] at this
      exact this
    have el : k + (d :: ds).length = k + 1 + ds.length := by rw [List.length_cons]; omega
    rcases h1 with ⟨S1, e2, h2⟩ | ⟨S1, S2, x, e2, e3, h2⟩
    · obtain ⟨xs, S', e5, h5⟩ := lcM2_inv I ds (k + 1) ys S1 h2 st'
      refine ⟨xs, S', ?_, by rw [el]; exact h5⟩
      unfold lcM2
      simp only [e1, e2]
      exact e5
    · obtain ⟨xs, S', e5, h5⟩ := lcM2_inv I ds (k + 1) (ys ++ [x]) S2 h2 st'
      refine ⟨x :: xs, S', ?_, by rw [el]; rw [List.append_assoc] at h5; exact h5⟩
      unfold lcM2
      simp only [e1, e2, e3, e5, e_l_ok]
end BV
/-! The by-value calculus: enumerate of a tuple (the library has lists and texts). -/
namespace BV
open PySem PySem.Spec PyProof.Rows L2

section
variable {prog : Program} {w : World}
theorem made_enumT {v : Value} {o : Obj} {TP : Heap → Prop} (B : Begins v o TP) :
    Meets (Builtin.«enumerate.__new__» ⟨[.type "enumerate", v], []⟩) (fun _ R s => TP s.heap ∧
      R (.ok (.ret (.ref (s.heap.push o).objs.size))) { s with heap := (s.heap.push o).push { cls := .type "enumerate", data := .fields #[.none, .bool false, .ref s.heap.objs.size, rawInt 0, .none, .none] } }) :=
  .of_wp fun prog w A R s hh => by
    obtain ⟨hp, gs, dr, tk, os⟩ := s; obtain ⟨h0, hR⟩ := hh
    have hsubE := sub_enumerate
    have itq : ∀ {A' : Around} {E : Value → Shared → Prop} {Q : Value → Shared → Prop}, Q (.ref hp.objs.size) ⟨hp.push o, gs, dr, tk, os⟩ → wpAny (model prog w) A' (pyIter v) Q E ⟨hp, gs, dr, tk, os⟩ :=
      fun q => B.iter prog w _ _ ⟨hp, gs, dr, tk, os⟩ _ h0 q
    wp_walk using itq
    refine wpAny_stack_any fun st => wpAny_pure ?_
    split
    · rename_i c _ _ _ _ _
      cases (c == Value.type "enumerate")
      · wp_walk using itq
        exact ⟨_, rfl, hR⟩
      · wp_walk using itq
        exact ⟨_, rfl, hR⟩
    · wp_walk using itq
      exact ⟨_, rfl, hR⟩
theorem call_enumT {A : Around} {E : Value → Shared → Prop} {s : Shared} {v : Value} {o : Obj} {TP : Heap → Prop} {Q : Value → Shared → Prop} (B : Begins v o TP) (h1 : TP s.heap)
    (hQ : ∀ h2, IsEnum h2 (s.heap.objs.size + 1) s.heap.objs.size 0 .none → h2.get? s.heap.objs.size = some o → (∀ b u, s.heap.get? b = some u → h2.get? b = some u) → Q (.ref (s.heap.objs.size + 1)) { s with heap := h2 }) :
    wpAny (model prog w) A (call (.type "enumerate") [v]) Q E s := by
  refine callType_new F.called_enumerate (by decide) (F.typeCall_enumerate_1 _) (F.newCall_enumerate_1 _) (fun ob => F.args_object_init_2 ob _) F.entry_enumerate_new (made_enumT B) ⟨h1, ?_⟩
  have hsz : (s.heap.push o).objs.size = s.heap.objs.size + 1 := Heap.size_push ..
  show _ ∧ _
  rw [hsz]
  have hE : IsEnum ((s.heap.push o).push { cls := .type "enumerate", data := .fields #[.none, .bool false, .ref s.heap.objs.size, rawInt 0, .none, .none] }) (s.heap.objs.size + 1) s.heap.objs.size 0 .none := by
    have e1 := Heap.get?_push_size (s.heap.push o) (o := { cls := .type "enumerate", data := .fields #[.none, .bool false, .ref s.heap.objs.size, rawInt 0, .none, .none] }) rfl
    rw [hsz] at e1; exact e1
  exact ⟨⟨_, hE, rfl⟩, hQ _ hE (Heap.get?_push_of_some _ (Heap.get?_push_size _ B.free)) fun b u e => Heap.get?_push_of_some _ (Heap.get?_push_of_some _ e)⟩
end
/-- the tuple at a, each item with its number in a new pair -/
def IteT (K : PySem.W.Frag) (a : Addr) : It :=
  ⟨fun i H => ∃ (xs : List V) (x : V), SqT K H a xs ∧ xs[i]? = some x, fun i H v H' => ∃ T x, v = .ref T ∧ H T = none ∧ H' = upd H T (.tup [.int (i : Nat), x]) ∧ ∀ xs, SqT K H a xs → xs[i]? = some x, fun i H => ∃ xs : List V, SqT K H a xs ∧ xs.length ≤ i⟩
theorem turn_enumT {P : Program} {w : World} {K : PySem.W.Frag} {elts : List Expr} {kk : Nat} {tpos : Pos} (a e it : Addr) (hai : a ≠ it) (hae : a ≠ e) :
    Turn P w K (.Tuple elts kk tpos) (IteT K a) [e, it] e (fun i h => (∃ old, IsEnum h e it ((i : Nat) : Int) old) ∧ h.IsTupleIter it a i ∧ e ≠ it) where
  mem := List.mem_cons_self ..
  obj := fun i h st b hb => by
    obtain ⟨⟨old, hE⟩, ⟨o, ho, hc, hd⟩, _⟩ := st
    rcases List.mem_cons.mp hb with z | z
    · subst z; exact ⟨_, hE, fun v q => nomatch q⟩
    · have z' := List.mem_singleton.mp z
      subst z'
      refine ⟨o, ho, fun v q => ?_⟩
      rw [hd] at q
      cases q
  keep := fun i h h' st k => by
    obtain ⟨⟨old, hE⟩, hi, hne⟩ := st
    exact ⟨⟨old, k e (List.mem_cons_self ..) _ hE⟩, hi.at fun o q => k it (List.mem_cons_of_mem _ (List.mem_cons_self ..)) o q, hne⟩
  item := by
    intro X hP hw hK hc i pins s σ H E I hf st hg
    subst hP hw hK
    obtain ⟨⟨old, hE⟩, hit, hne⟩ := st
    obtain ⟨xs, x, hq, hx⟩ := hg
    obtain ⟨its, rv, p, hz⟩ := I.tuple hq
    obtain ⟨u, hu, ru⟩ := rv.get hx
    have hel : e < s.heap.objs.size := Heap.lt_size hE
    have hil : it < s.heap.objs.size := by obtain ⟨_, q, _⟩ := hit; exact Heap.lt_size q
    have hin : i < its.toArray.size := by
      have := (List.getElem?_eq_some_iff.mp hu).1
      simpa using this
    refine wpAny_pyNext_enum_itemD (Draws.tuple (prog := X.prog) (w := X.w) (A := X.A.in1) (show X.A.in1.handled = none from I.ok.hd hc) it a hai its.toArray) hE ⟨hit, p⟩ hin hne (by simp [hne, Ne.symm hae]) fun y h1 tk hP' ho hst hT hsz hk => ?_
    have ey : y = u := by
      have : its[i]? = some y := by simpa using hP'
      rw [hu] at this
      exact (Option.some.inj this).symm
    subst ey
    refine ⟨_, rfl, wpAny_letOwnedTupleGo_enum (s := { s with heap := h1, toks := tk + 1 }) ho fun h2 hE2 sb => ?_⟩
    have hT2 : h2.get? s.heap.objs.size = some { cls := .type "tuple", data := .seq #[.int i tk, y] } := (sb.2 _ (Nat.ne_of_gt hel)).trans hT
    have nw : ObjOk X.prog X.w (upd H s.heap.objs.size (.tup [.int (i : Nat), x])) h2 s.heap.objs.size (.tup [.int (i : Nat), x]) :=
      ⟨by show 2 ≤ sizeLine; decide, [.int i tk, y], .cons ⟨_, rfl⟩ (.cons ru .nil), ⟨_, hT2, rfl, _, rfl⟩⟩
    have I1 : Inv X pins σ (upd H s.heap.objs.size (.tup [.int (i : Nat), x])) { s with heap := h2, toks := tk + 1 } :=
      I.turnedNew (ch := [e, it]) (fun b ob hb q => (sb.2 b (fun z => hb (by rw [z]; exact List.mem_cons_self ..))).trans (hk b ob (fun z => hb (by rw [z]; exact List.mem_cons_self ..)) (fun z => hb (by rw [z]; exact List.mem_cons_of_mem _ (List.mem_cons_self ..))) q)) hf (Nat.le_refl _) nw
    refine ⟨.ref s.heap.objs.size, _, I1, rfl, ⟨_, x, rfl, I.hok.fresh (Nat.le_refl _), rfl, fun ys hy => by rw [I.tuple_inj hy hq]; exact hx⟩, ⟨⟨y, ?_⟩, hst.1.at fun o q => (sb.2 it (Ne.symm hne)).trans q, hne⟩, fun b hb => ?_⟩
    · have e1 : ((i + 1 : Nat) : Int) = (i : Int) + 1 := by omega
      rw [e1]; exact hE2
    · have hlt : b < s.heap.objs.size := by
        rcases List.mem_cons.mp hb with z | z
        · rw [z]; exact hel
        · rw [List.mem_singleton.mp z]; exact hil
      rw [upd_ne (Nat.ne_of_lt hlt)]
      exact (hf b hb).1
  done := by
    intro X hP hw hK hc i pins s σ H E I hf st hg
    subst hP hw hK
    obtain ⟨⟨old, hE⟩, hit, hne⟩ := st
    obtain ⟨xs, hq, hx⟩ := hg
    obtain ⟨its, rv, p, hz⟩ := I.tuple hq
    obtain ⟨f0, f1, f2, f3, f4, f5⟩ := hf it (List.mem_cons_of_mem _ (List.mem_cons_self ..))
    have hend : its.toArray[i]? = none := by
      have hl := rv.length
      exact Array.getElem?_eq_none (by simp; omega)
    have tyE : s.TypeIs (.ref e) "enumerate" := ⟨_, hE, rfl⟩
    unfold pyNext
    refine wpAny_bind (wpAny_attempt ?_)
    refine wpAny_callSpecial?_slot (name := Str.ofString "__next__") tyE F.slot_enumerate_next ?_
    refine wpAny_call_entry F.slot_enumerate_next tyE F.entry_enumerate_next ?_ (F.args_enumerate_next_1 _)
    show wpAny _ _ (PySem.field (.ref e) 2 >>= _) _ _ _
    refine wpAny_bind (wpAny_field hE rfl (x := Value.ref it) rfl ?_)
    refine wpAny_bind (wpAny_nextOf_tuple_end (show (X.A.in1).handled = none from I.ok.hd hc) hit p hend fun h1 ex hb2 hx2 => ?_)
    obtain ⟨oS, hoS, hcS⟩ := hx2
    refine wpAny_bind (wpAny_isInstance (T := "StopIteration") (b := true) ⟨oS, hoS, hcS⟩ isSubtype_stop ?_)
    exact wpAny_pure ⟨rfl, I.turned (t' := s.toks) (fun b o hb q => hb2 b o hb q) f0 f1 f3 f4 f5⟩
  self := fun A i s Q E st h => by
    obtain ⟨⟨_, hE⟩, _⟩ := st
    exact wpAny_pyIter_enum hE h

def iEnumT (K : PySem.W.Frag) (ta : TA) : TI := fun σ H R => ta σ H fun vs H1 => ∃ a xs, vs = [.ref a] ∧ SqT K H1 a xs ∧ R (IteT K a) H1
theorem pi_enumT {X : Cx} {e : Expr} {ta : TA} {p pos tpos : Pos} {elts : List Expr} {kk : Nat} (hg : Gl X "enumerate") (hm : X.mg "enumerate" = none) (ha : PA X [e] ta) (hs : starEach [e] X.env = [(false, eval e X.env)] := by rfl) :
    PI X (.Tuple elts kk tpos) (.Call (.Name "enumerate" p) [e] [] pos) (iEnumT X.K ta) := by
  refine ⟨fun pins s σ H R I h => ?_⟩
  refine Call_ (ld_blt I hg hm boot_enumerate ?_)
  refine PyProof.Rows.callWith_type1 (thn (ha.run pos pins s σ H _ I h) fun us s1 ⟨vs, H1, I1, r1, qq⟩ => ?_) hs rfl
  obtain ⟨a, xs, ex, hH, q⟩ := qq
  subst ex
  cases r1 with
  | cons rv rr =>
    cases rr
    cases rv
    obtain ⟨its, rv, p', hz⟩ := I1.tuple hH
    refine call_enumT (begins_tuple a its.toArray) p' fun h2 hE ho hk => wpAny_pyIter_enum hE ?_
    have I2 : Inv X pins σ H1 { s1 with heap := h2 } := I1.kept (t' := s1.toks) hk
    have ha : a < s1.heap.objs.size := by obtain ⟨o, e1, _⟩ := p'; exact Heap.lt_size e1
    refine ⟨s1.heap.objs.size + 1, [s1.heap.objs.size + 1, s1.heap.objs.size], _, _, H1, rfl, I2, turn_enumT a (s1.heap.objs.size + 1) s1.heap.objs.size (Nat.ne_of_lt ha) (Nat.ne_of_lt (Nat.lt_succ_of_lt ha)), ⟨⟨.none, hE⟩, ⟨_, ho, rfl, rfl⟩, Nat.succ_ne_self _⟩, fun b hb => ?_, q⟩
    have hle : s1.heap.objs.size ≤ b := by
      rcases List.mem_cons.mp hb with z | z
      · rw [z]; exact Nat.le_add_right _ _
      · rw [List.mem_singleton.mp z]; exact Nat.le_refl _
    exact I1.fpOk hle (I1.hok.fresh hle)
/-! ### by values -/
def enumL (ds : List D) : List D := ds.mapIdx fun i d => .tuple [.int (i : Nat), d]
def zipL (xs ys : List D) : List D := (xs.zip ys).map fun p => .tuple [p.1, p.2]
theorem pair_rep {K : PySem.W.Frag} {o : Gh} {H : Hp} {c : Cs} {T : Addr} {x y : V} {d e : D} (tr : Trk o H) (hT : H T = none) (r1 : Rep K o H x d) (r2 : Rep K o H y e) :
    (∀ a u, H a = some u → upd H T (.tup [x, y]) a = some u) ∧ Rep K o (upd H T (.tup [x, y])) (.ref T) (.tuple [d, e]) := by
  refine ⟨fun a u q => by rw [upd_ne (ne_of_none q hT)]; exact q, .tup T _ _ (.of upd_same) (by show 2 ≤ sizeLine; decide) ?_⟩
  have s : Step isCell o c H o c (upd H T (.tup [x, y])) := Step.laid hT
  exact .cons _ _ _ _ (r1.step tr s) (.cons _ _ _ _ (r2.step tr s) .nil)
section
variable {K : PySem.W.Frag} {o : Gh} {c : Cs} {H : Hp} {a b : Addr} {vs ws : List V} {ds es : List D} {vol : Ow → Prop}
theorem it_enumL (tr : Trk o H) (h : H a = some (.lst vs)) (n : ∀ w, o a = some w → ¬ vol w) (z : vs.length ≤ sizeLine) (r : RepAll K o H vs ds) : ItOk vol K (Ite K a) o c H (enumL ds) := by
  have hl : (enumL ds).length = vs.length := by unfold enumL; rw [List.length_mapIdx, r.length]
  refine ⟨by rw [hl]; exact z, fun o1 c1 H1 s tr1 i => ?_⟩
  have h1 := s.keep a _ h n
  have r1 := r.step tr s
  refine ⟨fun q => ⟨vs, .of h1, by rw [← hl]; exact q⟩, fun d e => ?_⟩
  unfold enumL at e
  rw [List.getElem?_mapIdx] at e
  cases e1 : ds[i]? with
  | none => rw [e1] at e; cases e
  | some d0 =>
    rw [e1] at e
    cases e
    obtain ⟨v, e2, rv⟩ := r1.get e1
    refine ⟨⟨vs, v, .of h1, e2⟩, fun x H2 y => ?_⟩
    obtain ⟨T, x', rfl, hT, rfl, y⟩ := y
    have e3 := y vs (.of h1)
    rw [e2] at e3
    cases e3
    exact pair_rep (c := c1) tr1 hT (.int _) rv
theorem it_enumT (tr : Trk o H) (h : SqT K H a vs) (z : vs.length ≤ sizeLine) (r : RepAll K o H vs ds) : ItOk vol K (IteT K a) o c H (enumL ds) := by
  have hl : (enumL ds).length = vs.length := by unfold enumL; rw [List.length_mapIdx, r.length]
  refine ⟨by rw [hl]; exact z, fun o1 c1 H1 s tr1 i => ?_⟩
  have h1 : SqT K H1 a vs := SqT.stay tr s h
  have r1 := r.step tr s
  refine ⟨fun q => ⟨vs, h1, by rw [← hl]; exact q⟩, fun d e => ?_⟩
  unfold enumL at e
  rw [List.getElem?_mapIdx] at e
  cases e1 : ds[i]? with
  | none => rw [e1] at e; cases e
  | some d0 =>
    rw [e1] at e
    cases e
    obtain ⟨v, e2, rv⟩ := r1.get e1
    refine ⟨⟨vs, v, h1, e2⟩, fun x H2 y => ?_⟩
    obtain ⟨T, x', rfl, hT, rfl, y⟩ := y
    have e3 := y vs h1
    rw [e2] at e3
    cases e3
    exact pair_rep (c := c1) tr1 hT (.int _) rv
theorem zipL_get {i : Nat} {d : D} (h : (zipL ds es)[i]? = some d) : ∃ x y, ds[i]? = some x ∧ es[i]? = some y ∧ d = .tuple [x, y] := by
  unfold zipL at h
  rw [List.getElem?_map] at h
  cases e : (ds.zip es)[i]? with
  | none => rw [e] at h; cases h
  | some p =>
    rw [e] at h
    obtain ⟨h1, h2⟩ := List.getElem?_zip_eq_some.mp e
    exact ⟨p.1, p.2, h1, h2, (Option.some.inj h).symm⟩
theorem zipL_len : (zipL ds es).length = min ds.length es.length := by unfold zipL; rw [List.length_map, List.length_zip]
theorem it_zipL (tr : Trk o H) (h : H a = some (.lst vs)) (n : ∀ w, o a = some w → ¬ vol w) (z : vs.length ≤ sizeLine) (r : RepAll K o H vs ds) (h' : H b = some (.lst ws)) (n' : ∀ w, o b = some w → ¬ vol w) (r' : RepAll K o H ws es) : ItOk vol K (Itz K a b) o c H (zipL ds es) := by
  have hl : (zipL ds es).length = min vs.length ws.length := by rw [zipL_len, r.length, r'.length]
  refine ⟨by rw [hl]; omega, fun o1 c1 H1 s tr1 i => ?_⟩
  have h1 := s.keep a _ h n
  have h2 := s.keep b _ h' n'
  have r1 := r.step tr s
  have r2 := r'.step tr s
  refine ⟨fun q => ⟨vs, ws, .of h1, .of h2, by omega⟩, fun d e => ?_⟩
  obtain ⟨x, y, e1, e2, rfl⟩ := zipL_get e
  obtain ⟨v, f1, rv⟩ := r1.get e1
  obtain ⟨w, f2, rw'⟩ := r2.get e2
  refine ⟨⟨vs, ws, v, w, .of h1, .of h2, f1, f2⟩, fun p H2 yy => ?_⟩
  obtain ⟨T, x', y', rfl, hT, rfl, y1, y2⟩ := yy
  have e3 := y1 vs (.of h1)
  have e4 := y2 ws (.of h2)
  rw [f1] at e3
  rw [f2] at e4
  cases e3
  cases e4
  exact pair_rep (c := c1) tr1 hT rv rw'
theorem it_zipT (tr : Trk o H) (h : SqT K H a vs) (z : vs.length ≤ sizeLine) (r : RepAll K o H vs ds) (h' : SqT K H b ws) (r' : RepAll K o H ws es) : ItOk vol K (RZ.ItzT K a b) o c H (zipL ds es) := by
  have hl : (zipL ds es).length = min vs.length ws.length := by rw [zipL_len, r.length, r'.length]
  refine ⟨by rw [hl]; omega, fun o1 c1 H1 s tr1 i => ?_⟩
  have h1 : SqT K H1 a vs := SqT.stay tr s h
  have h2 : SqT K H1 b ws := SqT.stay tr s h'
  have r1 := r.step tr s
  have r2 := r'.step tr s
  refine ⟨fun q => ⟨vs, ws, h1, h2, by omega⟩, fun d e => ?_⟩
  obtain ⟨x, y, e1, e2, rfl⟩ := zipL_get e
  obtain ⟨v, f1, rv⟩ := r1.get e1
  obtain ⟨w, f2, rw'⟩ := r2.get e2
  refine ⟨⟨vs, ws, v, w, h1, h2, f1, f2⟩, fun p H2 yy => ?_⟩
  obtain ⟨T, x', y', rfl, hT, rfl, y1, y2⟩ := yy
  have e3 := y1 vs h1
  have e4 := y2 ws h2
  rw [f1] at e3
  rw [f2] at e4
  cases e3
  cases e4
  exact pair_rep (c := c1) tr1 hT rv rw'
end
/-! ### rules -/
def gEnum : List D → Option (List D)
  | [.list ds] => some (enumL ds)
  | [.tuple ds] => some (enumL ds)
  | _ => none
def gZip : List D → Option (List D)
  | [.list xs, .list ys] => some (zipL xs ys)
  | [.tuple xs, .tuple ys] => some (zipL xs ys)
  | _ => none
/-- an argument list whose values are data, none of them a name's own -/
def DAV (G : Cc) (es : List Expr) (f : SU) : Prop := ∃ t : WX → TA, (∀ X W, G.Ok X W → PA X es (t W)) ∧ ∀ W (σ : L2.St) (H : Hp) (ρ : En) (S : Sto) (o : Gh) (c : Cs) (Q : List V → Hp → Prop), NT o → RS G.K o c ρ S σ H →
  (match f ρ S with
    | .ok ds S' => ∀ vs o' c' H', Step isCell o c H o' c' H' → NT o' → RS G.K o' c' ρ S' σ H' → RepAll G.K o' H' vs ds → Q vs H'
    | .exc e S' => ∀ cls d o' c' H', Step isCell o c H o' c' H' → RS G.K o' c' ρ S' σ H' → NT o' → ExcR G.mg H' cls d e → W cls d σ H'
    | .bad => False) → t W σ H Q
section
variable {G : Cc} {pos p tpos : Pos} {e e1 e2 : Expr} {es elts : List Expr} {kk : Nat} {f f1 f2 : SE} {fs : SU} {vol : Ow → Prop}
theorem dav_nil : DAV G [] uNil := ⟨fun _ => tNil, fun X W k => pa_nil, fun W σ H ρ S o c Q nt rs p => p [] o c H Step.refl nt rs .nil⟩
theorem dav_cons (h1 : EV G e f) (h2 : DAV G es fs) (hs : ∀ env : PySem.Env, starEach (e :: es) env = (false, eval e env) :: starEach es env := by intro _; rfl) : DAV G (e :: es) (uCons f fs) := by
  obtain ⟨t1, p1, q1⟩ := h1
  obtain ⟨t2, p2, q2⟩ := h2
  refine ⟨fun W => tCons (t1 W) (t2 W), fun X W k => pa_cons (p1 X W k) (p2 X W k) (hs _), fun W σ H ρ S o c Q nt rs p => ?_⟩
  refine q1 W σ H ρ S o c _ nt rs ?_
  unfold uCons at p
  cases e1 : f ρ S with
  | bad => rw [e1] at p; exact p.elim
  | exc e' S' => rw [e1] at p; exact p
  | ok t0 S1 =>
    rw [e1] at p
    cases e2 : asD t0 with
    | none => simp only [e2] at p
    | some d =>
      simp only [e2] at p
      intro v o1 c1 H1 s1 rs1 r1
      have rd := r1.toD rs1.cs.trk e2
      refine q2 W σ H1 ρ S1 (unT o1) c1 _ unT_nt rs1.untmp ?_
      cases e3 : fs ρ S1 with
      | bad => rw [e3] at p; exact p.elim
      | exc e' S' =>
        rw [e3] at p
        exact fun cls d o' c' H' s => p cls d o' c' H' ((s1.untmp nt).trans s)
      | ok ds S2 =>
        rw [e3] at p
        exact fun vs o2 c2 H2 s2 nt2 rs2 r2 => p (v :: vs) o2 c2 H2 ((s1.untmp nt).trans s2) nt2 rs2 (.cons _ _ _ _ (rd.step rs1.untmp.cs.trk s2) r2)
theorem gEnum_some {ds xs : List D} (h : gEnum ds = some xs) : (∃ x, ds = [.list x] ∧ xs = enumL x) ∨ ∃ x, ds = [.tuple x] ∧ xs = enumL x := by
  unfold gEnum at h
  split at h
  · cases h; exact .inl ⟨_, rfl, rfl⟩
  · cases h; exact .inr ⟨_, rfl, rfl⟩
  · cases h
theorem iv_enumD (ha : DAV G [e] fs) (hm : G.mg "enumerate" = none) (hg : G.sc.names.lookup ("enumerate" : Str) = some .globalImplicit := by rfl) (hs : ∀ env : PySem.Env, starEach [e] env = [(false, eval e env)] := by intro _; rfl) :
    IV vol G (.Tuple elts kk tpos) (.Call (.Name "enumerate" p) [e] [] pos) (cRng gEnum fs) := by
  obtain ⟨t, pp, q⟩ := ha
  refine ⟨fun W σ H R => iEnum G.K (t W) σ H R ∨ iEnumT G.K (t W) σ H R, fun X W k => ?_, fun W σ H ρ S o c Q nt rs ps => ?_⟩
  · have := pi_or (pi_enum (pos := pos) (p := p) (tpos := tpos) (elts := elts) (kk := kk) (k.gl hg) (k.m hm) (pp X W k) (hs _)) (pi_enumT (pos := pos) (p := p) (tpos := tpos) (elts := elts) (kk := kk) (k.gl hg) (k.m hm) (pp X W k) (hs _))
    rw [k.K] at this
    exact this
  unfold cRng at ps
  cases e1 : fs ρ S with
  | bad => rw [e1] at ps; exact ps.elim
  | exc e' S' =>
    refine .inl (q W σ H ρ S o c _ nt rs ?_)
    rw [e1] at ps ⊢
    exact ps
  | ok ds S1 =>
    rw [e1] at ps
    cases e4 : gEnum ds with
    | none => simp only [R.l_ok, e4] at ps; exact ps.elim
    | some xs =>
      simp only [R.l_ok, e4] at ps
      rcases gEnum_some e4 with ⟨x, rfl, rfl⟩ | ⟨x, rfl, rfl⟩
      · refine .inl (q W σ H ρ S o c _ nt rs ?_)
        rw [e1]
        intro vs o1 c1 H1 s1 nt1 rs1 r1
        cases r1 with
        | cons v d _ _ r1 r2 =>
          cases r2
          obtain ⟨a, vs, rfl, h1, h2, h3, h4⟩ := r1.lstV
          exact ⟨a, vs, rfl, .of h1, ps _ o1 c1 H1 s1 nt1 rs1 (it_enumL rs1.cs.trk h1 (fun w hw => by rw [h2] at hw; cases hw) h3 h4)⟩
      · refine .inr (q W σ H ρ S o c _ nt rs ?_)
        rw [e1]
        intro vs o1 c1 H1 s1 nt1 rs1 r1
        cases r1 with
        | cons v d _ _ r1 r2 =>
          cases r2
          obtain ⟨a, vs, rfl, h1, h3, h4⟩ := r1.tupW
          exact ⟨a, vs, rfl, h1, ps _ o1 c1 H1 s1 nt1 rs1 (it_enumT rs1.cs.trk h1 h3 h4)⟩
theorem iv_enumU (ha : UAV G [e] fs) (hm : G.mg "enumerate" = none) (hg : G.sc.names.lookup ("enumerate" : Str) = some .globalImplicit := by rfl) (hs : ∀ env : PySem.Env, starEach [e] env = [(false, eval e env)] := by intro _; rfl) :
    IV isCell G (.Tuple elts kk tpos) (.Call (.Name "enumerate" p) [e] [] pos) (cRng gEnum fs) := by
  obtain ⟨t, pp, q⟩ := ha
  refine ⟨fun W σ H R => iEnum G.K (t W) σ H R ∨ iEnumT G.K (t W) σ H R, fun X W k => ?_, fun W σ H ρ S o c Q nt rs ps => ?_⟩
  · have := pi_or (pi_enum (pos := pos) (p := p) (tpos := tpos) (elts := elts) (kk := kk) (k.gl hg) (k.m hm) (pp X W k) (hs _)) (pi_enumT (pos := pos) (p := p) (tpos := tpos) (elts := elts) (kk := kk) (k.gl hg) (k.m hm) (pp X W k) (hs _))
    rw [k.K] at this
    exact this
  unfold cRng at ps
  cases e1 : fs ρ S with
  | bad => rw [e1] at ps; exact ps.elim
  | exc e' S' =>
    refine .inl (q W σ H ρ S o c _ nt rs ?_)
    rw [e1] at ps ⊢
    exact ps
  | ok ds S1 =>
    rw [e1] at ps
    cases e4 : gEnum ds with
    | none => simp only [R.l_ok, e4] at ps; exact ps.elim
    | some xs =>
      simp only [R.l_ok, e4] at ps
      rcases gEnum_some e4 with ⟨x, rfl, rfl⟩ | ⟨x, rfl, rfl⟩
      · refine .inl (q W σ H ρ S o c _ nt rs ?_)
        rw [e1]
        intro vs o1 c1 H1 s1 nt1 rs1 r1
        obtain ⟨v, rfl, r2⟩ := r1.one
        obtain ⟨a, vs, rfl, h1, h2, h3, h4⟩ := r2.lstV
        exact ⟨a, vs, rfl, .of h1, ps _ o1 c1 H1 s1 nt1 rs1 (it_enumL rs1.cs.trk h1 h2 h3 h4)⟩
      · refine .inr (q W σ H ρ S o c _ nt rs ?_)
        rw [e1]
        intro vs o1 c1 H1 s1 nt1 rs1 r1
        obtain ⟨v, rfl, r2⟩ := r1.one
        obtain ⟨a, vs, rfl, h1, h3, h4⟩ := r2.tupW
        exact ⟨a, vs, rfl, h1, ps _ o1 c1 H1 s1 nt1 rs1 (it_enumT rs1.cs.trk h1 h3 h4)⟩
theorem gZip_some {ds xs : List D} (h : gZip ds = some xs) : (∃ x y, ds = [.list x, .list y] ∧ xs = zipL x y) ∨ ∃ x y, ds = [.tuple x, .tuple y] ∧ xs = zipL x y := by
  unfold gZip at h
  split at h
  · cases h; exact .inl ⟨_, _, rfl, rfl⟩
  · cases h; exact .inr ⟨_, _, rfl, rfl⟩
  · cases h
theorem iv_zipD (ha : DAV G [e1, e2] fs) (hm : G.mg "zip" = none) (hg : G.sc.names.lookup ("zip" : Str) = some .globalImplicit := by rfl) (hs : ∀ env : PySem.Env, starEach [e1, e2] env = (false, eval e1 env) :: starEach [e2] env := by intro _; rfl)
    (hpl : ∀ env : PySem.Env, (backTo pos (starEach [e2] env)).any (·.1) = false := by intro _; rfl) : IV vol G (.Tuple elts kk tpos) (.Call (.Name "zip" p) [e1, e2] [] pos) (cRng gZip fs) := by
  obtain ⟨t, pp, q⟩ := ha
  refine ⟨fun W => RZ.iZipA G.K (t W), fun X W k => by have := RZ.pi_zipA (pos := pos) (p := p) (tpos := tpos) (elts := elts) (kk := kk) (k.gl hg) (k.m hm) (pp X W k) (hs _) (hpl _); rw [k.K] at this; exact this, fun W σ H ρ S o c Q nt rs ps => ?_⟩
  refine q W σ H ρ S o c _ nt rs ?_
  unfold cRng at ps
  cases e3 : fs ρ S with
  | bad => rw [e3] at ps; exact ps.elim
  | exc e' S' => rw [e3] at ps; exact ps
  | ok ds S1 =>
    rw [e3] at ps
    cases e4 : gZip ds with
    | none => simp only [R.l_ok, e4] at ps; exact ps.elim
    | some xs =>
      simp only [R.l_ok, e4] at ps
      intro vs o1 c1 H1 s1 nt1 rs1 r1
      rcases gZip_some e4 with ⟨x, y, rfl, rfl⟩ | ⟨x, y, rfl, rfl⟩
      · cases r1 with
        | cons v d _ _ r1 r2 =>
          cases r2 with
          | cons v' d' _ _ r2 r3 =>
            cases r3
            obtain ⟨a, vs, rfl, h1, h2, h3, h4⟩ := r1.lstV
            obtain ⟨b, ws, rfl, g1, g2, g3, g4⟩ := r2.lstV
            exact ⟨a, b, vs, ws, rfl, .inl ⟨.of h1, .of g1, ps _ o1 c1 H1 s1 nt1 rs1 (it_zipL rs1.cs.trk h1 (fun w hw => by rw [h2] at hw; cases hw) h3 h4 g1 (fun w hw => by rw [g2] at hw; cases hw) g4)⟩⟩
      · cases r1 with
        | cons v d _ _ r1 r2 =>
          cases r2 with
          | cons v' d' _ _ r2 r3 =>
            cases r3
            obtain ⟨a, vs, rfl, h1, h3, h4⟩ := r1.tupW
            obtain ⟨b, ws, rfl, g1, g3, g4⟩ := r2.tupW
            exact ⟨a, b, vs, ws, rfl, .inr ⟨h1, g1, ps _ o1 c1 H1 s1 nt1 rs1 (it_zipT rs1.cs.trk h1 h3 h4 g1 g4)⟩⟩
theorem iv_zipU (ha : UAV G [e1, e2] fs) (hm : G.mg "zip" = none) (hg : G.sc.names.lookup ("zip" : Str) = some .globalImplicit := by rfl) (hs : ∀ env : PySem.Env, starEach [e1, e2] env = (false, eval e1 env) :: starEach [e2] env := by intro _; rfl)
    (hpl : ∀ env : PySem.Env, (backTo pos (starEach [e2] env)).any (·.1) = false := by intro _; rfl) : IV isCell G (.Tuple elts kk tpos) (.Call (.Name "zip" p) [e1, e2] [] pos) (cRng gZip fs) := by
  obtain ⟨t, pp, q⟩ := ha
  refine ⟨fun W => RZ.iZipA G.K (t W), fun X W k => by have := RZ.pi_zipA (pos := pos) (p := p) (tpos := tpos) (elts := elts) (kk := kk) (k.gl hg) (k.m hm) (pp X W k) (hs _) (hpl _); rw [k.K] at this; exact this, fun W σ H ρ S o c Q nt rs ps => ?_⟩
  refine q W σ H ρ S o c _ nt rs ?_
  unfold cRng at ps
  cases e3 : fs ρ S with
  | bad => rw [e3] at ps; exact ps.elim
  | exc e' S' => rw [e3] at ps; exact ps
  | ok ds S1 =>
    rw [e3] at ps
    cases e4 : gZip ds with
    | none => simp only [R.l_ok, e4] at ps; exact ps.elim
    | some xs =>
      simp only [R.l_ok, e4] at ps
      intro vs o1 c1 H1 s1 nt1 rs1 r1
      rcases gZip_some e4 with ⟨x, y, rfl, rfl⟩ | ⟨x, y, rfl, rfl⟩
      · obtain ⟨v, v', rfl, ra, rb⟩ := r1.two
        obtain ⟨a, vs, rfl, h1, h2, h3, h4⟩ := ra.lstV
        obtain ⟨b, ws, rfl, g1, g2, g3, g4⟩ := rb.lstV
        exact ⟨a, b, vs, ws, rfl, .inl ⟨.of h1, .of g1, ps _ o1 c1 H1 s1 nt1 rs1 (it_zipL rs1.cs.trk h1 h2 h3 h4 g1 g2 g4)⟩⟩
      · obtain ⟨v, v', rfl, ra, rb⟩ := r1.two
        obtain ⟨a, vs, rfl, h1, h3, h4⟩ := ra.tupW
        obtain ⟨b, ws, rfl, g1, g3, g4⟩ := rb.tupW
        exact ⟨a, b, vs, ws, rfl, .inr ⟨h1, g1, ps _ o1 c1 H1 s1 nt1 rs1 (it_zipT rs1.cs.trk h1 h3 h4 g1 g4)⟩⟩
end
end BV
/-! The by-value calculus: dicts made, displayed, asked. -/
namespace BV
open PySem L2

section
variable {G : Cc} {W : WX} {o o1 o2 : Gh} {c c1 c2 : Cs} {ρ : En} {σ : L2.St} {H H1 H2 : Hp} {S S1 : Sto} {pos p pos' apos cpos : Pos} {a b e e1 e2 v k : Expr} {es values : List Expr} {keys : List (Option Expr)} {f f1 f2 f3 : SE} {fs : SU} {Q : VK}
/-! ### {} -/
def cDNew (q : Bool) : SE := fun _ S => .ok (.ownd q []) S
def tDNewX : TE := fun _ H Q => ∀ p, H p = none → (p == sysModules) = false → Q (.ref p) (upd H p (.ext (tdf p [])))
theorem pe_dnewX {X : Cx} {pos : Pos} : PE X (.Dict [] [] pos) tDNewX := ⟨fun pins s σ H Q I h => by
  refine wpAny_Dict_empty ⟨.ref s.heap.objs.size, _, I.laid (a := s.heap.objs.size) (o := .ext (tdf s.heap.objs.size [])) (t' := s.toks) (fun _ _ q => Heap.get?_push_of_some _ q) (Nat.le_refl _) ?_, rfl, h _ (I.hok.fresh (Nat.le_refl _)) (beq_eq_false_iff_ne.mpr (Ne.symm (Nat.ne_of_lt I.big)))⟩
  exact ⟨⟨_, #[], 0, Heap.get?_push_size _ rfl, ⟨rfl, rfl, rfl⟩, rfl, rfl, List.nodup_nil⟩, ⟨_, Heap.get?_push_size _ rfl⟩, tdf_stay⟩⟩
theorem post_ownd {q : Bool} {u : HO} {D : Addr} {kvs : List (BV.D × BV.D)} (rs : RS G.K o c ρ S σ H) (h : PostE G W o c ρ σ H (.ok (.ownd q kvs) S) Q) (n : H D = none) (ou : Ownable u) (r : DHas G.K (mkO o D .tmp) (upd H D u) D q kvs) : Q (.ref D) (upd H D u) := by
  obtain ⟨ks, vs, ds, h1, h2, h3, h4, h5⟩ := r
  exact h (.ref D) (mkO o D .tmp) c _ (Step.laidO rs.cs.trk n) (rs.laidO n ou) ⟨D, ks, vs, ds, rfl, mkO_same, h1, h2, h3, h4, h5⟩
theorem ev_dnew (q : Bool) : EV G (.Dict [] [] pos) (cDNew q) := by
  cases q with
  | false =>
    refine ⟨fun _ => tDNewK, fun X W k => pe_dnewK, fun W σ H ρ S o c Q nt rs p D n => ?_⟩
    exact post_ownd rs p n trivial ⟨[], [], [], ⟨[], upd_same, rfl, rfl⟩, Nat.zero_le _, rfl, .nil, rfl⟩
  | true =>
    refine ⟨fun _ => tDNewX, fun X W k => pe_dnewX, fun W σ H ρ S o c Q nt rs p D n hs => ?_⟩
    exact post_ownd rs p n trivial ⟨[], [], [], ⟨[], [], upd_same, .nil, hs, rfl, rfl⟩, Nat.zero_le _, rfl, .nil, rfl⟩
/-! ### {k: v, ..} -/
/-- a key as the text has it -/
def KeyC (e : Expr) (k : Key) : Prop := ∀ X, PE X e (tC (kV k))
theorem kc_int {i : Int} {j : Nat} : KeyC (.Constant (.int i) j pos) (.inl i) := fun X => pe_int
theorem kc_str {x : Str} {j : Nat} : KeyC (.Constant (.str x) j pos) (.inr x) := fun X => pe_str
def DPV (G : Cc) (pos : Pos) (keys : List (Option Expr)) (values : List Expr) (ks : List Key) (f : SU) : Prop := ∃ t : WX → List (TE × TE), (∀ X W, G.Ok X W → PPs X pos keys values (t W)) ∧ ∀ W (σ : L2.St) (H : Hp) (ρ : En) (S : Sto) (o : Gh) (c : Cs) (Q : List (V × V) → Hp → Prop), NT o → RS G.K o c ρ S σ H →
  (match f ρ S with
    | .ok ds S' => ∀ vs o' c' H', Step isCell o c H o' c' H' → NT o' → RS G.K o' c' ρ S' σ H' → RepAll G.K o' H' vs ds → Q ((ks.map kV).zip vs) H'
    | .exc e S' => ∀ cls d o' c' H', Step isCell o c H o' c' H' → RS G.K o' c' ρ S' σ H' → NT o' → ExcR G.mg H' cls d e → W cls d σ H'
    | .bad => False) → tPairs (t W) σ H Q
theorem dpv_nil : DPV G pos [] [] [] uNil := ⟨fun _ => [], fun X W k => pps_nil, fun W σ H ρ S o c Q nt rs p => p [] o c H Step.refl nt rs .nil⟩
theorem dpv_cons {key : Key} {ks : List Key} (hk : KeyC k key) (h1 : EV G v f) (h2 : DPV G pos keys values ks fs) : DPV G pos (some k :: keys) (v :: values) (key :: ks) (uCons f fs) := by
  obtain ⟨t1, p1, q1⟩ := h1
  obtain ⟨t2, p2, q2⟩ := h2
  refine ⟨fun W => (tC (kV key), t1 W) :: t2 W, fun X W k => pps_cons (hk X) (p1 X W k) (p2 X W k), fun W σ H ρ S o c Q nt rs p => ?_⟩
  show t1 W σ H _
  refine q1 W σ H ρ S o c _ nt rs ?_
  unfold uCons at p
  cases e1 : f ρ S with
  | bad => rw [e1] at p; exact p.elim
  | exc e' S' => rw [e1] at p; exact p
  | ok t0 S1 =>
    rw [e1] at p
    cases e2 : asD t0 with
    | none => simp only [e2] at p
    | some d =>
      simp only [e2] at p
      intro v o1 c1 H1 s1 rs1 r1
      have rd := r1.toD rs1.cs.trk e2
      refine q2 W σ H1 ρ S1 (unT o1) c1 _ unT_nt rs1.untmp ?_
      cases e3 : fs ρ S1 with
      | bad => rw [e3] at p; exact p.elim
      | exc e' S' =>
        rw [e3] at p
        exact fun cls d o' c' H' s => p cls d o' c' H' ((s1.untmp nt).trans s)
      | ok ds S2 =>
        rw [e3] at p
        exact fun vs o2 c2 H2 s2 nt2 rs2 r2 => p (v :: vs) o2 c2 H2 ((s1.untmp nt).trans s2) nt2 rs2 (.cons _ _ _ _ (rd.step rs1.untmp.cs.trk s2) r2)
/-- the display's data: the later one of two alike wins -/
def dDisp (acc : List (D × D)) : List Key → List D → List (D × D)
  | k :: ks, d :: ds => dDisp (dput acc (.inl k) (keyD k) d) ks ds
  | _, _ => acc
theorem disp_rep {K : PySem.W.Frag} : ∀ (ks : List Key) (vs : List V) (ds acc : List D) (kvs : List (Key × V)), RepAll K o H vs ds → RepAll K o H (kvs.map (·.2)) acc →
    ∃ acc', RepAll K o H ((mergeK kvs (ks.zip vs)).map (·.2)) acc' ∧ dDisp ((kvs.map (fun p => keyD p.1)).zip acc) ks ds = ((mergeK kvs (ks.zip vs)).map (fun p => keyD p.1)).zip acc'
  | [], _, _, acc, kvs, _, r => ⟨acc, r, by unfold dDisp; rfl⟩
  | k :: ks, [], _, acc, kvs, r0, r => by
    cases r0
    exact ⟨acc, r, rfl⟩
  | k :: ks, v :: vs, _, acc, kvs, r0, r => by
    cases r0 with
    | cons _ d _ ds r1 r2 =>
      obtain ⟨acc1, i1, i2, _⟩ := put_rep (fun k => keyD k) (fun k => .inl k) keyOf_key (fun a b h => Sum.inl.inj h) k r1 kvs acc r
      obtain ⟨acc2, j1, j2⟩ := disp_rep ks vs ds acc1 (putK kvs k v) r2 i1
      refine ⟨acc2, j1, ?_⟩
      have e1 : dDisp ((kvs.map (fun p => keyD p.1)).zip acc) (k :: ks) (d :: ds) = dDisp (dput ((kvs.map (fun p => keyD p.1)).zip acc) (.inl k) (keyD k) d) ks ds := rfl
      rw [e1, i2]
      exact j2
def cDisp (ks : List Key) (fs : SU) : SE := fun ρ S => R.l (fs ρ S) fun ds S1 => if ds.length = ks.length then .ok (.ownd false (dDisp [] ks ds)) S1 else .bad
theorem ev_disp {ks : List Key} (h : DPV G pos keys values ks fs) (hall : keys.all (·.isSome) = true := by rfl) (hl : keys.length = values.length := by rfl) (h0 : keys ≠ [] := by exact fun z => by cases z) (h15 : keys.length ≤ 15 := by decide) (hk : ks.length ≤ 15 := by decide) : EV G (.Dict keys values pos) (cDisp ks fs) := by
  obtain ⟨t, pp, q⟩ := h
  refine ⟨fun W => tDisp (t W), fun X W k => pe_disp (pp X W k) hall hl h0 h15, fun W σ H ρ S o c Q nt rs p D hD => ?_⟩
  have nt1 : NT (mkO o D .prot) := fun a z => by
    by_cases q : a = D
    · subst q; rw [mkO_same] at z; cases z
    · rw [mkO_ne q] at z; exact nt a z
  have s0 : Step isCell o c H (mkO o D .prot) c (upd H D (.dK [])) := Step.laidO rs.cs.trk hD
  have rs0 : RS G.K (mkO o D .prot) c ρ S σ (upd H D (.dK [])) := rs.laidO hD trivial
  have nD : o D = none := rs.cs.trk.new hD
  refine q W σ _ ρ S (mkO o D .prot) c _ nt1 rs0 ?_
  unfold cDisp at p
  have p0 := PostE.step s0 p
  cases e1 : fs ρ S with
  | bad => rw [e1] at p0; exact p0
  | exc e' S' => rw [e1] at p0; exact p0
  | ok ds S1 =>
    rw [e1] at p
    simp only [R.l_ok] at p
    split at p
    rotate_left
    · exact p.elim
    rename_i hlen
    intro vs o1 c1 H1 s1 nt1 rs1 r1
    have hp1 : o1 D = some .prot := s1.own D _ mkO_same (fun z => z)
    have hD1 : H1 D = some (.dK []) := s1.keep D _ upd_same (fun w hw => by rw [mkO_same] at hw; cases hw; exact fun z => z)
    have hlv : vs.length = ks.length := by rw [r1.length]; exact hlen
    refine ⟨hD1, ks.zip vs, ?_, ?_, ?_⟩
    · have : ∀ (ks : List Key) (vs : List V), (ks.map kV).zip vs = (ks.zip vs).map fun kv => (kV kv.1, kv.2) := fun ks => by
        induction ks with
        | nil => intro vs; rfl
        | cons k ks ih => intro vs; cases vs with
          | nil => rfl
          | cons v vs => rw [List.map_cons, List.zip_cons_cons, List.zip_cons_cons, List.map_cons, ih]
      exact this ks vs
    · rw [List.length_zip]; omega
    · -- the new dict becomes temporary
      have sup : ∀ a, o1 a = none → tmpAt o1 D a = none := fun a e => by
        have : a ≠ D := fun z => by rw [z, hp1] at e; cases e
        unfold tmpAt
        rw [mkO_ne this]
        exact e
      have kw : Kept o1 H1 (tmpAt o1 D) (upd H1 D (.dK (mergeK [] (ks.zip vs)))) := fun a u e n => by
        have : a ≠ D := fun z => by rw [z, hp1] at n; cases n
        exact ⟨by rw [upd_ne this]; exact e, sup a n⟩
      have st : Step isCell o c H (tmpAt o1 D) c1 (upd H1 D (.dK (mergeK [] (ks.zip vs)))) := ⟨fun a u e n => by
          rw [upd_ne (ne_of_none e hD)]
          exact (s0.trans s1).keep a u e n, fun a w e n => by
          have : a ≠ D := fun z => by rw [z, nD] at e; cases e
          unfold tmpAt
          rw [mkO_ne this]
          exact (s0.trans s1).own a w e n, fun a e n => by
          by_cases z : a = D
          · rw [z]; exact hD
          · unfold tmpAt at n
            rw [mkO_ne z] at n
            exact (s0.trans s1).new a e n, s1.pre⟩
      have cst : CS G.K (tmpAt o1 D) c1 S1 (upd H1 D (.dK (mergeK [] (ks.zip vs)))) := rs1.cs.move kw (fun a n e => by
          have : a ≠ D := fun z => by rw [z, hp1] at e; cases e
          exact ⟨by unfold tmpAt; rw [mkO_ne this]; exact e, fun u hu => by rw [upd_ne this]; exact hu⟩) fun a n => by
          by_cases z : a = D
          · rw [z]; exact ⟨_, upd_same, trivial⟩
          · unfold tmpAt at n
            rw [mkO_ne z] at n
            obtain ⟨u, hu, ou⟩ := rs1.cs.trk a n
            exact ⟨u, by rw [upd_ne z]; exact hu, ou⟩
      obtain ⟨acc, i1, i2⟩ := disp_rep ks vs ds [] [] r1 .nil
      have hz : (mergeK [] (ks.zip vs)).length ≤ sizeLine := by
        have h1 := length_mergeK (ks.zip vs) []
        have h2 : (ks.zip vs).length ≤ 15 := by rw [List.length_zip]; omega
        rw [List.length_nil] at h1
        rw [sizeLine_eq]; omega
      exact p (.ref D) (tmpAt o1 D) c1 _ st (rs.step st cst) ⟨D, _, _, acc, rfl, mkO_same, ⟨_, upd_same, rfl, rfl⟩, by rw [List.length_map]; exact hz, by rw [List.length_map, List.length_map], i1.kept rs1.cs.trk kw, i2⟩
/-! ### d.get(k), d.get(k, x) -/
def gGet (kvs : List (D × D)) (kd x : D) : Option T := (dAt kvs kd).map fun o => .val (o.getD x)
def cGet1 (fd fk : SE) : SE := fun ρ S => R.d (fd ρ S) fun d S1 => match d with
  | .dict kvs => if (unD kvs).1 = true then .bad else R.d (fk ρ S1) fun kd S2 => (match gGet kvs kd .none with | some t => .ok t S2 | none => .bad)
  | _ => .bad
def cGet2 (fd fk fx : SE) : SE := fun ρ S => R.d (fd ρ S) fun d S1 => match d with
  | .dict kvs => if (unD kvs).1 = true then .bad else R.d (fk ρ S1) fun kd S2 => R.d (fx ρ S2) fun x S3 => (match gGet kvs kd x with | some t => .ok t S3 | none => .bad)
  | _ => .bad
theorem isD_of {K : PySem.W.Frag} {x : V} {kvs : List (D × D)} (r : RepU K o H x (.dict kvs)) (hu : ¬ (unD kvs).1 = true) : ∃ a, x = .ref a ∧ IsD H a := by
  obtain ⟨q, a, ks, vs, ds, rfl, hd, _, _, _, _, e⟩ := r.dctV
  have hz := hd.un (ds := ds)
  rw [← e] at hz
  rw [hz] at hu
  cases q with
  | false =>
    obtain ⟨es, h, _⟩ := hd
    exact ⟨a, rfl, .inl ⟨es, h⟩⟩
  | true => exact absurd rfl hu
theorem get_rep {K : PySem.W.Frag} {x y : V} {kvs : List (D × D)} {kd d : D} {t : T} {z : V} (r : RepU K o H x (.dict kvs)) (r2 : RepU K o H y kd) (rz : Rep K o H z d) (h : gGet kvs kd d = some t) :
    ∃ a ov w, x = .ref a ∧ DGet H a y ov ∧ t = .val w ∧ Rep K o H (ov.getD z) w := by
  unfold gGet at h
  cases e : dAt kvs kd with
  | none => rw [e] at h; cases h
  | some od =>
    rw [e] at h
    cases h
    obtain ⟨a, rfl, _, g⟩ := rd_get r r2 e
    cases od with
    | some d' =>
      obtain ⟨v, g1, g2⟩ := g
      exact ⟨a, some v, d', rfl, g1, rfl, g2⟩
    | none => exact ⟨a, none, d, rfl, g, rfl, rz⟩
theorem ev_get1 (h1 : UV G a f1) (h2 : UV G b f2) (hb : ∀ env : PySem.Env, attributeBase a "get" env (eval a env) = eval a env := by intro _; rfl)
    (hf : ∀ env : PySem.Env, ((backTo cpos (starEach [b] env)).all (fun x => !x.1) && (backToKw cpos (keywordEach [] env)).all (fun x => x.1.isSome) && decide (([b] : List Expr).length + ([] : List Keyword).length + (if ([] : List Keyword).isEmpty then 0 else 1) < 30)) = true := by intro _; rfl)
    (hl : (apos.endLine == cpos.line) = true := by rfl) (ht : ∀ env : PySem.Env, backTo cpos (starEach [b] env) = [(false, eval b env)] := by intro _; rfl) :
    EV G (.Call (.Attribute a "get" apos) [b] [] cpos) (cGet1 f1 f2) := by
  obtain ⟨t1, p1, q1⟩ := h1
  obtain ⟨t2, p2, q2⟩ := h2
  refine ⟨fun W => tDGet1 (t1 W) (t2 W), fun X W k => pe_dget1 (by have := k.units; omega) (p1 X W k) (p2 X W k) ⟨hb _, hf _, hl, ht _⟩, fun W σ H ρ S o c Q nt rs p => ?_⟩
  refine (q1 W).d nt rs p fun d S1 v1 o1 c1 H1 s1 nt1 rs1 r1 p1 => ?_
  cases d with
  | dict kvs =>
    simp only at p1
    split at p1
    · exact p1.elim
    rename_i hnt
    obtain ⟨a0, rfl, hD⟩ := isD_of r1 hnt
    refine ⟨a0, rfl, hD, (q2 W).d nt1 rs1 p1 fun kd S2 v2 o2 c2 H2 s2 nt2 rs2 r2 p2 => ?_⟩
    have r1' := r1.step rs1.cs.trk s2
    cases e : gGet kvs kd .none with
    | none => simp only [e] at p2; exact p2.elim
    | some t =>
      simp only [e] at p2
      obtain ⟨a1, ov, w, ea, g, rfl, rw'⟩ := get_rep r1' r2 .non e
      cases ea
      exact ⟨ov, g, post_val rs2 p2 rw'⟩
  | _ => exact p1.elim
theorem ev_get2 {cc : Expr} (h1 : UV G a f1) (h2 : UV G b f2) (h3 : EV G cc f3) (hb : ∀ env : PySem.Env, attributeBase a "get" env (eval a env) = eval a env := by intro _; rfl)
    (hf : ∀ env : PySem.Env, ((backTo cpos (starEach [b, cc] env)).all (fun x => !x.1) && (backToKw cpos (keywordEach [] env)).all (fun x => x.1.isSome) && decide (([b, cc] : List Expr).length + ([] : List Keyword).length + (if ([] : List Keyword).isEmpty then 0 else 1) < 30)) = true := by intro _; rfl)
    (hl : (apos.endLine == cpos.line) = true := by rfl) (ht : ∀ env : PySem.Env, backTo cpos (starEach [b, cc] env) = [(false, eval b env), (false, eval cc env)] := by intro _; rfl) :
    EV G (.Call (.Attribute a "get" apos) [b, cc] [] cpos) (cGet2 f1 f2 f3) := by
  obtain ⟨t1, p1, q1⟩ := h1
  obtain ⟨t2, p2, q2⟩ := h2
  obtain ⟨t3, p3, q3⟩ := h3
  refine ⟨fun W => tDGet2 (t1 W) (t2 W) (t3 W), fun X W k => pe_dget2 (by have := k.units; omega) (p1 X W k) (p2 X W k) (p3 X W k) ⟨hb _, hf _, hl, ht _⟩, fun W σ H ρ S o c Q nt rs p => ?_⟩
  refine (q1 W).d nt rs p fun d S1 v1 o1 c1 H1 s1 nt1 rs1 r1 p1 => ?_
  cases d with
  | dict kvs =>
    simp only at p1
    split at p1
    · exact p1.elim
    rename_i hnt
    obtain ⟨a0, rfl, hD⟩ := isD_of r1 hnt
    refine ⟨a0, rfl, hD, (q2 W).d nt1 rs1 p1 fun kd S2 v2 o2 c2 H2 s2 nt2 rs2 r2 p2 => ?_⟩
    have r1' := r1.step rs1.cs.trk s2
    refine (q3 W).d nt2 rs2 p2 fun x S3 v3 o3 c3 H3 s3 nt3 rs3 r3 p3 => ?_
    cases e : gGet kvs kd x with
    | none => simp only [e] at p3; exact p3.elim
    | some t =>
      simp only [e] at p3
      obtain ⟨a1, ov, w, ea, g, rfl, rw'⟩ := get_rep (r1'.step rs2.cs.trk s3) (r2.step rs2.cs.trk s3) r3 e
      cases ea
      exact ⟨ov, g, post_val rs3 p3 rw'⟩
  | _ => exact p1.elim
end
end BV
/-! The by-value calculus: exceptions raised. -/
namespace BV
open PySem PySem.Spec PyProof.Rows L2

section
variable {X : Cx}
/-- {x} of a whole number or None -/
def strN : V → Option Str
  | .non => some "None"
  | .int i => if i.natAbs.log2 < 1920 then some (Str.ofString (toString i)) else none
  | _ => none
def tFmtN (te : TE) : TE := fun σ H Q => te σ H fun x H1 => ∃ y, strN x = some y ∧ Q (.str y) H1
theorem pe_fmtN {e : Expr} {te : TE} {pos : Pos} (he : PE X e te) : PE X (.FormattedValue e (-1) none pos) (tFmtN te) := by
  refine ⟨fun pins s σ H Q I h => ?_⟩
  refine wpAny_FormattedValue_plain (thn (he.run pins s σ H _ I h) fun v s1 hv => ?_)
  obtain ⟨x, H1, I1, r1, y, hy, q⟩ := hv
  cases x with
  | non =>
    cases hy
    cases (show v = Value.none from r1)
    exact wpAny_formatField_none ⟨.str "None", H1, I1.tok _, ⟨_, rfl⟩, q⟩
  | int i =>
    obtain ⟨t, rfl⟩ := r1
    have hy' : (if i.natAbs.log2 < 1920 then some (Str.ofString (toString i)) else none) = some y := hy
    by_cases hz : i.natAbs.log2 < 1920
    · rw [if_pos hz] at hy'
      cases hy'
      exact wpAny_formatField_int hz ⟨.str (toString i), H1, I1.tok _, ⟨_, rfl⟩, q⟩
    · rw [if_neg hz] at hy'
      cases hy'
  | _ => cases hy
/-- B.__init__(self, e), B an own class over ValueError without an own __init__ -/
structure BaseX (K : PySem.W.Frag) (B : Addr) : Prop where
  rd : PySem.W.readsIn K B (.type "type") = true
  ga : PySem.W.specialIn K (.ref B) "__getattribute__" = some (some (.builtin "type.__getattribute__"))
  at_ : PySem.W.findCls K (.ref B) (.type "type") "__init__" = some (.val (.builtin "ValueError.__init__"))
theorem pe_binit {B : Addr} {x : Str} {e : Expr} {es : List Expr} {ta : TA} {p1 p2 pos : Pos} {pl : Sem Bool} (T : BaseX X.K B) (hg : Gl X x) (hm : X.mg x = some (.ref B)) (ha : PA X (e :: es) ta) (hdb : (x == ("__debug__" : Str)) = false)
    (hc : eval (.Call (.Attribute (.Name x p1) "__init__" p2) (e :: es) [] pos) X.env = (do
      let ov ← eval (.Name x p1) X.env
      standAt p2.atName
      let (f, first) ← holding [ov] (getMethod ov "__init__" pl)
      callWith pos f first (backTo pos (starEach (e :: es) X.env)) (backToKw pos (keywordEach [] X.env))))
    (he : starEach (e :: es) X.env = (false, eval e X.env) :: starEach es X.env) (hpl : (backTo pos (starEach es X.env)).any (·.1) = false) :
    PE X (.Call (.Attribute (.Name x p1) "__init__" p2) (e :: es) [] pos) (tVeI X.K ta) := by
  refine ⟨fun pins s σ H Q I h => ?_⟩
  refine PySem.W.methodCall_KW (ld_glob I hg hm ?_ hdb) hc
  refine PySem.W.method_cls I.kIn T.ga (PySem.W.cls_value I.kIn T.rd T.at_ (by decide +kernel) ?_)
  show wpAny _ _ (callWith pos (Value.builtin "ValueError.__init__") [] (backTo pos (starEach (e :: es) X.env)) []) _ _ _
  refine PyProof.Rows.callWith_method1 (thn (ha.run pos pins _ σ H _ (I.tok _) h) fun us s1 hh => ?_) he hpl
  obtain ⟨vs, H1, I1, r1, a, C, ws, ev, hl, T1, ea, q⟩ := hh
  subst ev
  cases r1 with
  | @cons _ u0 _ ur ra rw2 =>
    obtain rfl : u0 = Value.ref a := ra
    have hle : ur.length ≤ sizeLine := by
      rw [← Paired.length rw2, sizeLine_eq]
      omega
    exact oinit_ok T1 I1 ea hle fun s' J => ⟨.non, H1, J, rfl, q⟩
end
theorem le_lineA {a b : Nat} (h : b ≤ 100) (h2 : a = 0 + b) : a ≤ sizeLine := Nat.le_trans (show a ≤ 4096 by omega) (by decide)
theorem le_lineB {a b c : Nat} (h : b ≤ 100) (h3 : c ≤ 600) (h2 : a = 0 + b + c) : a ≤ sizeLine := Nat.le_trans (show a ≤ 4096 by omega) (by decide)
/-! ### an exception's __init__ -/
/-- self.f = v, v a whole number or None -/
def spInit (K : PySem.W.Frag) (f : Str) : Sp := fun vs H Q _ => ∃ (a C : Addr) (v : V) (y : Str), vs = [.ref a, v] ∧ OexC K C ∧ PySem.W.findIn K (.ref C) f = some none ∧ H a = some (exo a C none) ∧ strN v = some y ∧ y.length ≤ 600 ∧
  ∀ d, H d = none → d ≠ a → Q .non (upd (upd H d (exd d [(f, v)])) a (exo a C (some d)))
section
variable {P : Program} {w : World} {K : PySem.W.Frag} {mg : Str → Option Value} {base : Heap} {CX : CXT}
theorem init_ok {qual fld v txt : Str} {B : Addr} {fI : Addr} {fd : FuncData} {params : Arguments} {body : List Stmt} {scope : Scope} {dvs : List V} {j : Nat} {p1 p2 p3 q1 q2 q3 q4 q5 q6 r1 r2 r3 r4 : Pos}
    (F : FunD K "__init__" qual params body scope dvs [] fI fd) (Sc : FnScope ["self", v] ["self", v] scope) (T : BaseX K B) (hB : mg "CastError" = some (.ref B))
    (hb : body = [.Expr (.Call (.Attribute (.Name "CastError" p1) "__init__" p2) [.Name "self" p3, .JoinedStr [.Constant (.str txt) j q1, .FormattedValue (.Name v q2) (-1) none q3] q4] [] q5) q6, .Assign [.Attribute (.Name "self" r1) fld r2] (.Name v r3) r4])
    (hg : scope.names.lookup ("CastError" : Str) = some .globalImplicit) (hs : scope.names.lookup ("self" : Str) = some .local) (hv : scope.names.lookup v = some .local) (hd : (v == ("__debug__" : Str)) = false) (hcd : (v == ("__classdict__" : Str)) = false)
    (ht : txt.length ≤ 100) {pl : PySem.Env → Sem Bool}
    (hc : ∀ (env : PySem.Env), eval (.Call (.Attribute (.Name "CastError" p1) "__init__" p2) [.Name "self" p3, .JoinedStr [.Constant (.str txt) j q1, .FormattedValue (.Name v q2) (-1) none q3] q4] [] q5) env = (do
      let ov ← eval (.Name "CastError" p1) env
      standAt p2.atName
      let (f, first) ← holding [ov] (getMethod ov "__init__" (pl env))
      callWith q5 f first (backTo q5 (starEach [.Name "self" p3, .JoinedStr [.Constant (.str txt) j q1, .FormattedValue (.Name v q2) (-1) none q3] q4] env)) (backToKw q5 (keywordEach [] env)))) : FnOk P w K mg base CX 1 fI fd ["self", v] (spInit K fld) := by
  subst hb
  refine F.ok Sc (fun vs H Q E h => by obtain ⟨a, C, v, y, e, _⟩ := h; rw [e]; rfl) fun cdv A outer s H vs Q E hr hsp => ?_
  obtain ⟨a, C, v0, y, e, hT, hno, ea, hy, hyl, q⟩ := hsp
  subst e
  have pself : ∀ p, PE (cxOf CX P w K mg base ["self", v] qual scope fI cdv A outer s H E) (.Name "self" p) (tVar 0) := fun p => pe_var rfl (.inl hs) (by decide) (by decide)
  have pv : ∀ p, PE (cxOf CX P w K mg base ["self", v] qual scope fI cdv A outer s H E) (.Name v p) (tVar 1) := fun p => pe_var rfl (.inl hv) hd hcd
  refine ⟨_, pss_cons (ps_expr (pe_binit (X := cxOf CX P w K mg base ["self", v] qual scope fI cdv A outer s H E) T hg hB (pa_cons (pself p3) (pa_cons (pe_joined (.cons pe_str (.cons (pe_fmtN (pv q2)) .nil))) pa_nil rfl) rfl) (by decide) (hc _) rfl rfl) rfl) (pss_one (ps_ost (pself r1) (pv r3) rfl)), ?_⟩
  have hz : (Str.empty ++ txt).length ≤ sizeLine := by exact le_lineA ht (by rw [length_append_str]; rfl)
  have hz2 : (Str.empty ++ txt ++ y).length ≤ sizeLine := by exact le_lineB ht hyl (by rw [length_append_str, length_append_str]; rfl)
  refine ⟨.ref a, rfl, ⟨txt, rfl, hz, v0, rfl, y, hy, y, rfl, hz2, a, C, _, rfl, (by show 1 ≤ 1000; decide), hT, ea, ?_⟩⟩
  refine ⟨v0, rfl, .ref a, rfl, a, C, rfl, hT, hno, .inl ⟨ea, fun dx h1 h2 => ?_⟩⟩
  exact q dx h1 h2
end

/-! ### raise -/
/-- an own exception class without own __init__ -/
structure ExcP (K : PySem.W.Frag) (mg : Str → Option Value) (x : Str) : Prop where
  ex : ∃ C, mg x = some (.ref C) ∧ PySem.W.excIn K C He.veBase "ValueError.__new__" = true ∧ PySem.W.keepIn K (.ref C) = true ∧ PySem.W.subIn K (.ref C) (.type "BaseException") = some true ∧ PySem.W.typeIn K (.ref C) = some (.type "type")
/-- .. with an __init__ that keeps f; n: how many of its arguments have defaults that a call may leave out -/
structure ExcF (P : Program) (w : World) (K : PySem.W.Frag) (mg : Str → Option Value) (base : Heap) (x f : Str) (dvs : List V) : Prop where
  ex : ∃ (C fI : Addr) (fd : FuncData) (ps : List Str) (ds : List Value), mg x = some (.ref C) ∧ OexC K C ∧ PySem.W.findIn K (.ref C) "__init__" = some (some (.ref fI)) ∧ PySem.W.typeIn K (.ref fI) = some (.type "function") ∧ PySem.W.findIn K (.ref C) f = some none ∧
    FnOk P w K mg base (L2N.CX P w) 1 fI fd ps (spInit K f) ∧ Binds K fd ps ds ∧ Vals dvs ds
def sRaise (x : Str) : SS := fun ρ S => .ex ⟨x, none⟩ ρ S
/-- what such an exception may keep -/
def excD : D → Bool
  | .none => true
  | .int i => decide (i.natAbs.log2 < 1920) && decide ((strI i).length ≤ 600)
  | _ => false
def sRaiseF (x f : Str) (fe : SE) : SS := sD fe fun d ρ S => if excD d then .ex ⟨x, some (f, d)⟩ ρ S else .bad
def sRaise0 (x f : Str) : SS := fun ρ S => .ex ⟨x, some (f, .none)⟩ ρ S
theorem passes_no {X : Cx} : Passes (L2N.CX X.prog X.w) X (fun _ _ _ => False) := fun _ _ _ _ _ _ _ h => by
  obtain ⟨_, _, _, _, _, _, _, _, _, _, _, _, hE⟩ := h
  exact hE.elim
theorem excD_str {d : D} {K : PySem.W.Frag} {o : Gh} {H : Hp} {v : V} (h : excD d = true) (r : RepU K o H v d) : vE d = some v ∧ ∃ y, strN v = some y ∧ y.length ≤ 600 := by
  cases d with
  | none =>
    rw [r.nonV]
    exact ⟨rfl, _, rfl, by decide +kernel⟩
  | int i =>
    rw [r.intV]
    have h' : (decide (i.natAbs.log2 < 1920) && decide ((strI i).length ≤ 600)) = true := h
    rw [Bool.and_eq_true] at h'
    exact ⟨rfl, Str.ofString (toString i), if_pos (of_decide_eq_true h'.1), of_decide_eq_true h'.2⟩
  | _ => cases h
/-! ### an exception's class called, its own __init__ keeping sp -/
section
variable {X : Cx}
theorem oex_run {ct : CXT} {C fI : Addr} {k : Nat} {fd : FuncData} {qs : List Str} {sp : Sp} {ews us : List Value} {dws vs : List V} {pins : List (Addr × Obj)} {σ : L2.St} {H : Hp} {Q : XK} {s1 : Shared} (T : OexC X.K C) (iC : PySem.W.findIn X.K (.ref C) "__init__" = some (some (.ref fI)))
    (tI : PySem.W.typeIn X.K (.ref fI) = some (.type "function")) (F1 : FnOk X.prog X.w X.K X.mg X.base ct k fI fd qs sp) (room : Room (k + 1) X.A) (bi : Binds X.K fd qs ews) (rd : Vals dws ews) (px : Passes ct X fun _ _ _ => False)
    (I : Inv X pins σ H s1) (ru : Vals vs us) (hz : vs.length ≤ 1000) (h : ∀ a, H a = none → sp (.ref a :: (vs ++ dws)) (upd H a (exo a C none))
      (fun v G => v = .non ∧ ∃ (d : Addr) (fs : List (Str × V)), G a = some (exo a C (some d)) ∧ G d = some (exd d fs) ∧ H d = none ∧ Q (.ref C) (some d) (upd (del G a) d (.xd fs))) fun _ _ _ => False) :
    wpAny (model X.prog X.w) X.A (call (.ref C) us) (L2N.MkP X pins σ Q) X.xe s1 := by
  obtain ⟨nm, q, N, bs, bm, sn, sub, ab, col, dd, k0, k1, k2, k3, k5, atC, tail⟩ := T.cls
  obtain ⟨hp, g, dr, tk, os⟩ := s1
  have above : hp.objs.size ≤ hp.objs.size + 1 := Nat.le_succ _
  have hn : H (hp.objs.size + 1) = none := I.hok.fresh above
  have hq := h (hp.objs.size + 1) hn
  have kept : ∀ b o, hp.get? b = some o → ((hp.push (PySem.W.kdv_tup us)).push (PySem.HandSPX.excO C hp.objs.size)).get? b = some o := fun _ _ z => Heap.get?_push_of_some _ (Heap.get?_push_of_some _ z)
  have there : ((hp.push (PySem.W.kdv_tup us)).push (PySem.HandSPX.excO C hp.objs.size)).get? (hp.objs.size + 1) = some (PySem.HandSPX.excO C hp.objs.size) := by heap_get
  have J : Inv X pins σ (upd H (hp.objs.size + 1) (exo (hp.objs.size + 1) C none)) ⟨(hp.push (PySem.W.kdv_tup us)).push (PySem.HandSPX.excO C hp.objs.size), g, dr, tk, os⟩ := Inv.laid (t' := tk) (a := hp.objs.size + 1) (o := exo (hp.objs.size + 1) C none) I kept above (exo_ok there)
  have rv : Vals (V.ref (hp.objs.size + 1) :: (vs ++ dws)) (Value.ref (hp.objs.size + 1) :: (us ++ ews)) := .cons rfl (ru.append rd)
  have hl : (Value.ref (hp.objs.size + 1) :: us ++ ews).length = qs.length := by
    have e := rv.length
    rw [F1.len _ _ _ _ hq] at e
    exact e.symm
  have hus : us.length ≤ sizeLine := by
    have := Paired.length ru
    have := sizeLine_eq
    omega
  refine wpAny_call (PySem.HandSPX.call_own F.excBase_ValueError (fun Y => PySem.HandSPX.refsVE_contains Y bm tail) (I.kIn _ _ atC) (PySem.W.looks_findIn I.kIn iC) (fun self => PySem.W.bind_fn I.kIn self tI) hus
    (codeAny_mono (F1.run _ X.stack _ _ ⟨Value.ref (hp.objs.size + 1) :: us, []⟩ (Value.ref (hp.objs.size + 1) :: (us ++ ews)) _ _ (fun _ _ _ => False) (room.make C us []) (J.env0.make C us []) (bi _ (Value.ref (hp.objs.size + 1) :: us) J.kIn hl) rv hq) fun r t hr => ?_))
  cases r with
  | error er => exact px pins σ _ _ er t J hr
  | ok fl =>
    cases fl with
    | ret u =>
      obtain ⟨v, G, os2, bare2, un2, hok2, ru, ev, d, fs, ea, ed, fresh, q2⟩ := hr
      subst ev
      obtain ⟨h2, g2, d2, t2, os'⟩ := t
      obtain ⟨t0, GG, J2, kG, ge, hoe, na⟩ := mk_end0 (d2 := d2) (t2 := t2) I above kept un2 hok2 os2 bare2 ea ed fresh
      exact ⟨ru, hp.objs.size + 1, _, _, ⟨GG, g2, d2, t2, os'⟩, _, .ref C, some d, rfl, J2, kG, ge, hoe, ⟨rfl, rfl, fun _ e => by cases e; rfl⟩, rfl, rfl, na, rfl, bare2, raises_own T.exC T.tyC, q2⟩
    | _ => exact hr.elim
theorem pmk_oexA {ct : CXT} {x : Str} {C fI : Addr} {k : Nat} {fd : FuncData} {qs : List Str} {sp : Sp} {ews : List Value} {dws : List V} {e : Expr} {es : List Expr} {ta : TA} {p pos : Pos} (T : OexC X.K C) (iC : PySem.W.findIn X.K (.ref C) "__init__" = some (some (.ref fI)))
    (tI : PySem.W.typeIn X.K (.ref fI) = some (.type "function")) (F1 : FnOk X.prog X.w X.K X.mg X.base ct k fI fd qs sp) (room : Room (k + 1) X.A) (bi : Binds X.K fd qs ews) (rd : Vals dws ews) (px : Passes ct X fun _ _ _ => False)
    (gx : Gl X x) (mx : X.mg x = some (.ref C)) (ha : PA X (e :: es) ta) (nd : (x == ("__debug__" : Str)) = false) (h1 : starEach (e :: es) X.env = (false, eval e X.env) :: starEach es X.env) (h2 : (backTo pos (starEach es X.env)).any (·.1) = false) :
    L2N.PMk X (.Call (.Name x p) (e :: es) [] pos) (tMkO C sp dws ta) := by
  intro pins s σ H Q I h
  refine wpAny_Call_Name_kw (ld_glob I gx mx ?_ nd)
  refine PySem.W.callWith_K (h₀ := X.base) I.ok.mod.kin T.kC (thn (ha.run pos pins s σ H _ I h) fun us s1 hh => ?_) h1 h2
  obtain ⟨vs, H1, I1, r1, hz, q1⟩ := hh
  exact ⟨I1.kIn, oex_run T iC tI F1 room bi rd px I1 r1 hz q1⟩
/-- C() -/
def tMk0 (C : Addr) (sp : Sp) (dws : List V) : L2.St → Hp → XK → Prop := fun _ H Q => ∀ a, H a = none → sp (.ref a :: dws) (upd H a (exo a C none))
  (fun v G => v = .non ∧ ∃ (d : Addr) (fs : List (Str × V)), G a = some (exo a C (some d)) ∧ G d = some (exd d fs) ∧ H d = none ∧ Q (.ref C) (some d) (upd (del G a) d (.xd fs))) fun _ _ _ => False
theorem pmk_oex0 {ct : CXT} {x : Str} {C fI : Addr} {k : Nat} {fd : FuncData} {qs : List Str} {sp : Sp} {ews : List Value} {dws : List V} {p pos : Pos} (T : OexC X.K C) (iC : PySem.W.findIn X.K (.ref C) "__init__" = some (some (.ref fI)))
    (tI : PySem.W.typeIn X.K (.ref fI) = some (.type "function")) (F1 : FnOk X.prog X.w X.K X.mg X.base ct k fI fd qs sp) (room : Room (k + 1) X.A) (bi : Binds X.K fd qs ews) (rd : Vals dws ews) (px : Passes ct X fun _ _ _ => False)
    (gx : Gl X x) (mx : X.mg x = some (.ref C)) (nd : (x == ("__debug__" : Str)) = false) : L2N.PMk X (.Call (.Name x p) [] [] pos) (tMk0 C sp dws) := by
  intro pins s σ H Q I h
  refine wpAny_Call_Name_kw (ld_glob I gx mx ?_ nd)
  refine PySem.W.callWith_K0 I.kIn T.kC ?_
  exact oex_run (us := []) (vs := []) T iC tI F1 room bi rd px I .nil (by show 0 ≤ 1000; decide) h
end
section
variable {G : Cc} {pos p p2 pos' : Pos} {e : Expr} {f : SE} {x m : Str} {j : Nat}
theorem sv_raise (h : ExcP G.K G.mg x) (hcm : G.hot = none := by rfl) (hg : G.sc.names.lookup x = some .globalImplicit := by rfl) (hdb : (x == ("__debug__" : Str)) = false := by decide) : SV G (.Raise (some (.Call (.Name x p) [.Constant (.str m) j p2] [] pos')) none pos) (sRaise x) := by
  obtain ⟨C, hm, q, kC, e1, e2⟩ := h.ex
  refine ⟨fun W => fun _ σ H => W (.ref C) none σ H, fun X W k => ?_, fun W σ H ρ S o c D nt rs ps => ?_⟩
  · exact L2N.ps_raise (k.calm hcm) k.tk.n (L2N.pmk_own PySem.F.excBase_ValueError (by rw [k.K]; exact q) (k.m hm) (by rw [k.K]; exact kC) (raises_own (by rw [k.K]; exact e1) (by rw [k.K]; exact e2)) (k.gl hg) hdb)
  · exact ps (.ref C) none σ o c H Step.refl nt rs ⟨C, rfl, hm, rfl⟩
/-- the heap behind such an exception's making -/
theorem mk_heap {H : Hp} {a C d : Addr} {fs fs' : List (Str × V)} (na : H a = none) (hne : d ≠ a) : upd (del (upd (upd (upd H a (exo a C none)) d (exd d fs)) a (exo a C (some d))) a) d (.xd fs') = upd H d (.xd fs') := by
  funext b
  by_cases h1 : b = d
  · rw [h1, upd_same, upd_same]
  · rw [upd_ne h1, upd_ne h1]
    by_cases h2 : b = a
    · rw [h2, del_same, na]
    · rw [del_ne h2, upd_ne h2, upd_ne h1, upd_ne h2]
theorem mk_read {fld : Str} {C : Addr} {dvs : List V} {o : Gh} {c : Cs} {ρ : En} {S : Sto} {σ : L2.St} {H : Hp} {W : WX} {Dn : Ends} {dd : BV.D} {v : V} {y : Str} {vs : List V} (G : Cc) (hC : OexC G.K C) (hno : PySem.W.findIn G.K (.ref C) fld = some none) (hm : G.mg x = some (.ref C))
    (hvs : vs ++ dvs = [v]) (hl : vs.length ≤ 1000) (ed : vE dd = some v) (hy : strN v = some y) (hyl : y.length ≤ 600) (nt : NT o) (rs : RS G.K o c ρ S σ H) (ps : PostS G W o c H (.ex ⟨x, some (fld, dd)⟩ ρ S) Dn) :
    vs.length ≤ 1000 ∧ ∀ a, H a = none → spInit G.K fld (.ref a :: (vs ++ dvs)) (upd H a (exo a C none))
      (fun v H2 => v = .non ∧ ∃ (d : Addr) (fs : List (Str × V)), H2 a = some (exo a C (some d)) ∧ H2 d = some (exd d fs) ∧ H d = none ∧ W (.ref C) (some d) σ (upd (del H2 a) d (.xd fs))) (fun _ _ _ => False) := by
  refine ⟨hl, fun a na => ?_⟩
  rw [hvs]
  refine ⟨a, C, v, y, rfl, hC, hno, upd_same, hy, hyl, fun d nd hne => ?_⟩
  have nd' : H d = none := by rw [upd_ne hne] at nd; exact nd
  refine ⟨rfl, d, [(fld, v)], upd_same, ?_, nd', ?_⟩
  · rw [upd_ne hne, upd_same]
  · rw [mk_heap na hne]
    exact ps (.ref C) (some d) σ o c _ (Step.laid nd') nt (rs.laid nd') ⟨C, rfl, hm, d, v, rfl, ed, upd_same⟩
theorem sv_raiseF (fld : Str) (h : ExcF G.P G.w G.K G.mg G.base x fld []) (he : UV G e f) (hcm : G.hot = none := by rfl) (hk : 2 ≤ G.k := by (try dsimp only [Cc.blk]); decide) (hg : G.sc.names.lookup x = some .globalImplicit := by rfl) (hdb : (x == ("__debug__" : Str)) = false := by decide)
    (hst : ∀ env : PySem.Env, starEach [e] env = (false, eval e env) :: starEach [] env := by intro _; rfl) (hpl : ∀ env : PySem.Env, (backTo pos' (starEach [] env)).any (·.1) = false := by intro _; rfl) : SV G (.Raise (some (.Call (.Name x p) [e] [] pos')) none pos) (sRaiseF x fld f) := by
  obtain ⟨C, fI, fd, qs, ds, hm, hC, iC, tI, hno, F1, hb, hd⟩ := h.ex
  obtain ⟨t, pp, q⟩ := he
  refine ⟨fun W => fun _ σ H => tMkO C (spInit G.K fld) [] (tCons (t W) tNil) σ H fun cls d H' => W cls d σ H', fun X W k => ?_, fun W σ H ρ S o c D nt rs ps => ?_⟩
  · refine L2N.ps_raise (k.calm hcm) k.tk.n ?_
    have F2 : FnOk X.prog X.w X.K X.mg X.base (L2N.CX X.prog X.w) 1 fI fd qs (spInit G.K fld) := by rw [k.P, k.w, k.K, k.mg, k.base]; exact F1
    exact pmk_oexA (by rw [k.K]; exact hC) (by rw [k.K]; exact iC) (by rw [k.K]; exact tI) F2 ((k.room0 hcm).mono hk) (by rw [k.K]; exact hb) hd passes_no (k.gl hg) (k.m hm) (pa_cons (pp X W k) pa_nil (hst _)) hdb (hst _) (hpl _)
  · refine (q W).s nt rs ps fun d S1 v o1 c1 H1 s1 nt1 rs1 r1 p1 => ?_
    by_cases hx : excD d = true
    · rw [if_pos hx] at p1
      obtain ⟨ed, y, hy, hyl⟩ := excD_str hx r1
      exact mk_read (vs := [v]) (dvs := []) G hC hno hm rfl (by show 1 ≤ 1000; decide) ed hy hyl nt1 rs1 p1
    · rw [if_neg hx] at p1; exact p1.elim
end
section
variable {G : Cc} {pos p pos' : Pos} {x fld : Str}
theorem sv_raise0 (h : ExcF G.P G.w G.K G.mg G.base x fld [.non]) (hcm : G.hot = none := by rfl) (hk : 2 ≤ G.k := by (try dsimp only [Cc.blk]); decide) (hg : G.sc.names.lookup x = some .globalImplicit := by rfl) (hdb : (x == ("__debug__" : Str)) = false := by decide) :
    SV G (.Raise (some (.Call (.Name x p) [] [] pos')) none pos) (sRaise0 x fld) := by
  obtain ⟨C, fI, fd, qs, ds, hm, hC, iC, tI, hno, F1, hb, hd⟩ := h.ex
  refine ⟨fun W => fun _ σ H => tMk0 C (spInit G.K fld) [.non] σ H fun cls d H' => W cls d σ H', fun X W k => ?_, fun W σ H ρ S o c D nt rs ps => ?_⟩
  · refine L2N.ps_raise (k.calm hcm) k.tk.n ?_
    have F2 : FnOk X.prog X.w X.K X.mg X.base (L2N.CX X.prog X.w) 1 fI fd qs (spInit G.K fld) := by rw [k.P, k.w, k.K, k.mg, k.base]; exact F1
    exact pmk_oex0 (by rw [k.K]; exact hC) (by rw [k.K]; exact iC) (by rw [k.K]; exact tI) F2 ((k.room0 hcm).mono hk) (by rw [k.K]; exact hb) hd passes_no (k.gl hg) (k.m hm) hdb
  · have := mk_read (vs := []) (dvs := [.non]) G hC hno hm rfl (by show 0 ≤ 1000; decide) (dd := .none) rfl (show strN .non = some _ from rfl) (by decide +kernel) nt rs ps
    exact this.2
end
end BV
/-! The by-value calculus: sorted. -/
namespace BV
open PySem PySem.Spec PyProof.Rows L2

/-! ### by insertion -/
section
variable {α : Type}
def insB (le : α → α → Bool) (x : α) : List α → List α
  | [] => [x]
  | y :: r => if le x y then x :: y :: r else y :: insB le x r
def sortB (le : α → α → Bool) : List α → List α
  | [] => []
  | x :: r => insB le x (sortB le r)
structure LinB (le : α → α → Bool) : Prop where
  total : ∀ a b, le a b = true ∨ le b a = true
  trans : ∀ a b c, le a b = true → le b c = true → le a c = true
  anti : ∀ a b, le a b = true → le b a = true → a = b
variable {le : α → α → Bool}
theorem insB_perm (x : α) : ∀ l : List α, (insB le x l).Perm (x :: l)
  | [] => List.Perm.refl _
  | y :: r => by
    unfold insB
    split
    · exact List.Perm.refl _
    · exact (List.Perm.cons y (insB_perm x r)).trans (List.Perm.swap x y r)
theorem sortB_perm : ∀ l : List α, (sortB le l).Perm l
  | [] => List.Perm.refl _
  | x :: r => (insB_perm x _).trans (List.Perm.cons x (sortB_perm r))
theorem insB_pw (L : LinB le) (x : α) : ∀ l : List α, l.Pairwise (fun a b => le a b = true) → (insB le x l).Pairwise (fun a b => le a b = true)
  | [], _ => by simp [insB]
  | y :: r, h => by
    unfold insB
    have h' := List.pairwise_cons.mp h
    split
    · rename_i e
      refine List.pairwise_cons.mpr ⟨fun z hz => ?_, h⟩
      rcases List.mem_cons.mp hz with q | q
      · rw [q]; exact e
      · exact L.trans _ _ _ e (h'.1 z q)
    · rename_i e
      have e2 : le y x = true := (L.total x y).resolve_left e
      refine List.pairwise_cons.mpr ⟨fun z hz => ?_, insB_pw L x r h'.2⟩
      rcases List.mem_cons.mp ((insB_perm x r).mem_iff.mp hz) with q | q
      · rw [q]; exact e2
      · exact h'.1 z q
theorem sortB_pw (L : LinB le) : ∀ l : List α, (sortB le l).Pairwise (fun a b => le a b = true)
  | [] => List.Pairwise.nil
  | x :: r => insB_pw L x _ (sortB_pw L r)
theorem perm_eq (L : LinB le) : ∀ {xs ys : List α}, xs.Perm ys → xs.Pairwise (fun a b => le a b = true) → ys.Pairwise (fun a b => le a b = true) → xs = ys
  | [], ys, p, _, _ => (List.nil_perm.mp p).symm
  | x :: xs, [], p, _, _ => by have := p.length_eq; simp at this
  | x :: xs, y :: ys, p, h1, h2 => by
    have h1' := List.pairwise_cons.mp h1
    have h2' := List.pairwise_cons.mp h2
    have e : x = y := by
      have a := p.mem_iff.mp (List.mem_cons_self (a := x))
      have b := p.mem_iff.mpr (List.mem_cons_self (a := y))
      rcases List.mem_cons.mp a with q | q
      · exact q
      · rcases List.mem_cons.mp b with r | r
        · exact r.symm
        · exact L.anti _ _ (h1'.1 y r) (h2'.1 x q)
    subst e
    rw [perm_eq L (List.Perm.cons_inv p) h1'.2 h2'.2]
theorem sortB_uniq (L : LinB le) {xs ys : List α} (p : ys.Perm xs) (h : ys.Pairwise (fun a b => le a b = true)) : ys = sortB le xs := perm_eq L (p.trans (sortB_perm xs).symm) h (sortB_pw L xs)
theorem sortB_of_perm (L : LinB le) {xs ys : List α} (p : xs.Perm ys) : sortB le xs = sortB le ys := sortB_uniq L ((sortB_perm xs).trans p) (sortB_pw L xs)
theorem sortB_len (l : List α) : (sortB le l).length = l.length := (sortB_perm l).length_eq
theorem sortB_mem {l : List α} {x : α} : x ∈ sortB le l ↔ x ∈ l := (sortB_perm l).mem_iff
end
def leI (a b : Int) : Bool := decide (a ≤ b)
theorem linI : LinB leI := ⟨fun a b => by unfold leI; simp only [decide_eq_true_eq]; omega, fun a b c => by unfold leI; simp only [decide_eq_true_eq]; omega, fun a b => by unfold leI; simp only [decide_eq_true_eq]; omega⟩
abbrev sortI : List Int → List Int := sortB leI
/-! ### texts -/
theorem cps_irr : ∀ a : List Nat, ltCps a a = false
  | [] => rfl
  | x :: a => by simp [ltCps, cps_irr a]
theorem cps_tri : ∀ a b : List Nat, ltCps a b = false → ltCps b a = false → a = b
  | [], [], _, _ => rfl
  | [], _ :: _, h, _ => by simp [ltCps] at h
  | _ :: _, [], _, h => by simp [ltCps] at h
  | x :: a, y :: b, h1, h2 => by
    simp only [ltCps, Bool.or_eq_false_iff, decide_eq_false_iff_not, Bool.and_eq_false_iff, beq_eq_false_iff_ne] at h1 h2
    have e : x = y := by omega
    subst e
    rw [cps_tri a b (h1.2.resolve_left fun z => z rfl) (h2.2.resolve_left fun z => z rfl)]
theorem cps_trans : ∀ a b c : List Nat, ltCps b a = false → ltCps c b = false → ltCps c a = false
  | [], [], [], _, _ => rfl
  | [], _, _ :: _, _, _ => by simp [ltCps]
  | [], _ :: _, [], _, h => by simp [ltCps] at h
  | _ :: _, [], _, h, _ => by simp [ltCps] at h
  | x :: a, y :: b, [], _, h => by simp [ltCps] at h
  | x :: a, y :: b, z :: c, h1, h2 => by
    simp only [ltCps, Bool.or_eq_false_iff, decide_eq_false_iff_not, Bool.and_eq_false_iff, beq_eq_false_iff_ne] at h1 h2 ⊢
    refine ⟨by omega, ?_⟩
    by_cases e : z = x
    · right
      have e1 : y = x := by omega
      exact cps_trans a b c (h1.2.resolve_left fun q => q e1) (h2.2.resolve_left fun q => q (by omega))
    · exact .inl e
theorem cps_asym (a b : List Nat) (h : ltCps a b = true) : ltCps b a = false := by
  cases e : ltCps b a with
  | false => rfl
  | true =>
    exfalso
    revert h e
    induction a generalizing b with
    | nil => cases b <;> simp [ltCps]
    | cons x a ih =>
      cases b with
      | nil => simp [ltCps]
      | cons y b =>
        simp only [ltCps, Bool.or_eq_true, decide_eq_true_eq, Bool.and_eq_true, beq_iff_eq]
        intro h e
        rcases h with h | ⟨h, h2⟩
        · rcases e with e | ⟨e, _⟩ <;> omega
        · rcases e with e | ⟨e, e2⟩
          · omega
          · exact ih b h2 e2
def leS (a b : Str) : Bool := !ltCps b.cps.toList a.cps.toList
theorem str_eq {a b : Str} (h : a.cps.toList = b.cps.toList) : a = b := by
  obtain ⟨⟨a⟩⟩ := a
  obtain ⟨⟨b⟩⟩ := b
  simp at h
  rw [h]
theorem linS : LinB leS where
  total a b := by
    unfold leS
    cases e : ltCps b.cps.toList a.cps.toList with
    | false => exact .inl rfl
    | true => right; rw [cps_asym _ _ e]; rfl
  trans a b c h1 h2 := by
    unfold leS at *
    simp only [Bool.not_eq_true'] at *
    exact cps_trans _ _ _ h1 h2
  anti a b h1 h2 := by
    unfold leS at *
    simp only [Bool.not_eq_true'] at *
    exact str_eq (cps_tri _ _ h2 h1)
abbrev sortS : List Str → List Str := sortB leS
theorem rising_pw : ∀ (l : List Str) (x : Str), risingS x l = true → (x :: l).Pairwise (fun a b => leS a b = true)
  | [], x, _ => by simp
  | y :: l, x, h => by
    have h' : (!ltCps y.cps.toList x.cps.toList && risingS y l) = true := h
    rw [Bool.and_eq_true] at h'
    have ih := rising_pw l y h'.2
    refine List.pairwise_cons.mpr ⟨fun z hz => ?_, ih⟩
    rcases List.mem_cons.mp hz with q | q
    · rw [q]; exact h'.1
    · exact linS.trans _ _ _ h'.1 ((List.pairwise_cons.mp ih).1 z q)
theorem sortedS_pw : ∀ {l : List Str}, sortedS l = true → l.Pairwise (fun a b => leS a b = true)
  | [], _ => List.Pairwise.nil
  | x :: l, h => rising_pw l x h
/-! ### the rule -/
def keysI : List (D × D) → Option (List Int)
  | [] => some []
  | (.int i, _) :: r => (keysI r).map (i :: ·)
  | _ => none
def keysS : List (D × D) → Option (List Str)
  | [] => some []
  | (.str x, _) :: r => (keysS r).map (x :: ·)
  | _ => none
def keyOkS (x : Str) : Bool := PyData.strOk x && decide (x.length ≤ sizeLine)
def gSorted : List D → Option T
  | [.list ds] => (match intsOf ds with
    | some ns => some (.own ((sortI ns).map PyData.int))
    | none => (match strsOf ds with
      | some xs => if xs.length < 64 then some (.own ((sortS xs).map PyData.str)) else none
      | none => none))
  | [.dict kvs] => if kvs.length < 64 then (match keysI kvs with
    | some ns => some (.own ((sortI ns).map PyData.int))
    | none => (match keysS kvs with
      | some xs => if xs.all keyOkS then some (.own ((sortS xs).map PyData.str)) else none
      | none => none)) else none
  | _ => none
theorem strs_inv : ∀ {ds : List D} {xs : List Str}, strsOf ds = some xs → ds = xs.map PyData.str
  | [], xs, h => by cases h; rfl
  | d :: ds, xs, h => by
    cases d with
    | str x =>
      cases e : strsOf ds with
      | none => simp [strsOf, e] at h
      | some ys =>
        simp [strsOf, e] at h
        subst h
        rw [strs_inv e]
        rfl
    | _ => simp [strsOf] at h
theorem ints_inv : ∀ {ds : List D} {xs : List Int}, intsOf ds = some xs → ds = xs.map PyData.int
  | [], xs, h => by cases h; rfl
  | d :: ds, xs, h => by
    cases d with
    | int x =>
      cases e : intsOf ds with
      | none => simp [intsOf, e] at h
      | some ys =>
        simp [intsOf, e] at h
        subst h
        rw [ints_inv e]
        rfl
    | _ => simp [intsOf] at h
theorem rep_ints {K : PySem.W.Frag} {o : Gh} {H : Hp} : ∀ {ns : List Int} {vs : List V}, RepAll K o H vs (ns.map PyData.int) → vs = ns.map V.int
  | [], _, h => by cases h; rfl
  | n :: ns, _, h => by
    cases h with
    | cons v d vs ds h1 h2 => rw [h1.intV, rep_ints h2]; rfl
theorem rep_strs {K : PySem.W.Frag} {o : Gh} {H : Hp} : ∀ {xs : List Str} {vs : List V}, RepAll K o H vs (xs.map PyData.str) → vs = xs.map V.str ∧ ∀ x ∈ xs, PyData.strOk x = true ∧ x.length ≤ sizeLine
  | [], _, h => by cases h; exact ⟨rfl, fun x h => nomatch h⟩
  | n :: ns, _, h => by
    cases h with
    | cons v d vs ds h1 h2 =>
      obtain ⟨e1, q⟩ := h1.strV
      obtain ⟨e2, q2⟩ := rep_strs h2
      rw [e1, e2]
      refine ⟨rfl, fun x hx => ?_⟩
      rcases List.mem_cons.mp hx with z | z
      · rw [z]; exact q
      · exact q2 x z
theorem strs_rep {K : PySem.W.Frag} {o : Gh} {H : Hp} : ∀ {xs : List Str}, (∀ x ∈ xs, PyData.strOk x = true ∧ x.length ≤ sizeLine) → RepAll K o H (xs.map V.str) (xs.map PyData.str)
  | [], _ => .nil
  | x :: xs, h => .cons _ _ _ _ (.str x (h x (List.mem_cons_self ..)).1 (h x (List.mem_cons_self ..)).2) (strs_rep fun y hy => h y (List.mem_cons_of_mem _ hy))
theorem keysI_inv : ∀ {kvs : List (D × D)} {ns : List Int}, keysI kvs = some ns → kvs.map (·.1) = ns.map PyData.int
  | [], ns, h => by cases h; rfl
  | (k, d) :: kvs, ns, h => by
    cases k with
    | int i =>
      cases e : keysI kvs with
      | none => simp [keysI, e] at h
      | some ms =>
        simp [keysI, e] at h
        subst h
        rw [List.map_cons, keysI_inv e]
        rfl
    | _ => simp [keysI] at h
theorem keysS_inv : ∀ {kvs : List (D × D)} {ns : List Str}, keysS kvs = some ns → kvs.map (·.1) = ns.map PyData.str
  | [], ns, h => by cases h; rfl
  | (k, d) :: kvs, ns, h => by
    cases k with
    | str i =>
      cases e : keysS kvs with
      | none => simp [keysS, e] at h
      | some ms =>
        simp [keysS, e] at h
        subst h
        rw [List.map_cons, keysS_inv e]
        rfl
    | _ => simp [keysS] at h
theorem keyD_ints : ∀ {ks : List Key} {ns : List Int}, ks.map keyD = ns.map PyData.int → ks = ns.map Sum.inl
  | [], [], _ => rfl
  | [], _ :: _, h => by cases h
  | _ :: _, [], h => by cases h
  | .inl i :: ks, n :: ns, h => by
    rw [List.map_cons, List.map_cons] at h
    injection h with h1 h2
    cases h1
    rw [keyD_ints h2]
    rfl
  | .inr x :: ks, n :: ns, h => by
    rw [List.map_cons, List.map_cons] at h
    injection h with h1 h2
    cases h1
theorem keyD_strs : ∀ {ks : List Key} {ns : List Str}, ks.map keyD = ns.map PyData.str → ks = ns.map Sum.inr
  | [], [], _ => rfl
  | [], _ :: _, h => by cases h
  | _ :: _, [], h => by cases h
  | .inr i :: ks, n :: ns, h => by
    rw [List.map_cons, List.map_cons] at h
    injection h with h1 h2
    cases h1
    rw [keyD_strs h2]
    rfl
  | .inl x :: ks, n :: ns, h => by
    rw [List.map_cons, List.map_cons] at h
    injection h with h1 h2
    cases h1
theorem zip_fst {α β : Type} : ∀ {xs : List α} {ys : List β}, xs.length = ys.length → (xs.zip ys).map (·.1) = xs
  | [], [], _ => rfl
  | [], _ :: _, h => by cases h
  | _ :: _, [], h => by cases h
  | x :: xs, y :: ys, h => by
    rw [List.zip_cons_cons, List.map_cons, zip_fst (by simpa using h)]
section
variable {G : Cc}
theorem keys_ok {K : PySem.W.Frag} {o : Gh} {H : Hp} {v : V} {kvs : List (BV.D × BV.D)} {ks0 : List BV.D} (r : RepU K o H v (.dict kvs)) (e : kvs.map (·.1) = ks0) (hn : ∀ k ∈ ks0, k ≠ .none) :
    ∃ a l, v = .ref a ∧ Rd H a (.dK l) ∧ (l.map (·.1)).map keyD = ks0 := by
  obtain ⟨q, a, ks, vs, ds, rfl, hd, h1, h2, hlen0, h3, h4⟩ := r.dctV
  cases q with
  | true =>
    subst h4
    exact absurd rfl (hn .none (by rw [← e]; exact List.mem_cons_self ..))
  | false =>
    obtain ⟨l, hl, e1, e2⟩ := hd
    refine ⟨a, l, rfl, hl, ?_⟩
    rw [← e, h4]
    have hlen : ks.length = ds.length := by
      have z1 := h3.length
      omega
    show _ = (ks.zip ds).map (·.1)
    rw [zip_fst hlen, e1, List.map_map]
    rfl
theorem bf_sorted (hcm : G.hot = none := by rfl) : BF G "sorted" gSorted := ⟨"sorted", _, by decide +kernel, fun X W k => by
    have := ((cr_sortedI (X := X)).or (cr_sortedS (X := X))).or ((call_sortedDI (X := X) (k.calm hcm)).or (call_sortedD (X := X) (k.calm hcm)))
    rw [k.K] at this
    exact this, by
  intro G' W o c ρ S σ H vs ds t Q hK rs r e p
  rw [← hK] at r ⊢
  unfold gSorted at e
  split at e
  · rename_i es
    obtain ⟨v, rfl, r'⟩ := r.one
    obtain ⟨a, us, e1, h1, _, z1, ra⟩ := r'.lstV
    subst e1
    split at e
    · rename_i ns en
      cases e
      rw [ints_inv en] at ra
      have eu := rep_ints ra
      subst eu
      refine .inl (.inl ⟨a, ns, rfl, .of h1, fun ns' q pm pw n => ?_⟩)
      have := sortB_uniq linI pm (pw.imp fun h => by unfold leI; exact decide_eq_true h)
      subst this
      exact post_own (hK ▸ rs) p n (by rw [List.length_map, sortB_len]; rw [List.length_map] at z1; exact z1) (RepAll.ints _)
    · split at e
      · rename_i xs ex
        by_cases h64 : xs.length < 64
        · rw [if_pos h64] at e
          cases e
          rw [strs_inv ex] at ra
          obtain ⟨eu, ok⟩ := rep_strs ra
          subst eu
          refine .inl (.inr ⟨a, xs, rfl, .of h1, h64, fun ys q pm pw n => ?_⟩)
          have := sortB_uniq linS pm (sortedS_pw pw)
          subst this
          exact post_own (hK ▸ rs) p n (by rw [List.length_map, sortB_len]; rw [List.length_map] at z1; exact z1) (strs_rep fun x hx => ok x (sortB_mem.mp hx))
        · rw [if_neg h64] at e; cases e
      · cases e
  · rename_i kvs
    obtain ⟨v, rfl, r'⟩ := r.one
    by_cases h64 : kvs.length < 64
    · rw [if_pos h64] at e
      split at e
      · rename_i ns en
        cases e
        have ek := keysI_inv en
        obtain ⟨a, l, rfl, hl, el⟩ := keys_ok r' ek (by intro k hk; obtain ⟨i, _, rfl⟩ := List.mem_map.mp hk; intro z; cases z)
        have el' := keyD_ints el
        have hn : ns.length < 64 := by
          have := congrArg List.length ek
          rw [List.length_map, List.length_map] at this
          omega
        refine .inr (.inl ⟨a, l, ns, rfl, hl, el', hn, fun ys q pm pw n => ?_⟩)
        have := sortB_uniq linI pm (pw.imp fun h => by unfold leI; exact decide_eq_true h)
        subst this
        exact post_own (hK ▸ rs) p n (by rw [List.length_map, sortB_len]; exact small64 hn) (RepAll.ints _)
      · split at e
        · rename_i xs ex
          by_cases hok : xs.all keyOkS = true
          case neg => rw [if_neg hok] at e; cases e
          rw [if_pos hok] at e
          cases e
          have ek := keysS_inv ex
          obtain ⟨a, l, rfl, hl, el⟩ := keys_ok r' ek (by intro k hk; obtain ⟨i, _, rfl⟩ := List.mem_map.mp hk; intro z; cases z)
          have el' := keyD_strs el
          have hn : xs.length < 64 := by
            have := congrArg List.length ek
            rw [List.length_map, List.length_map] at this
            omega
          refine .inr (.inr ⟨a, l, xs, rfl, hl, el', hn, fun ys q pm pw n => ?_⟩)
          have := sortB_uniq linS pm (sortedS_pw pw)
          subst this
          exact post_own (hK ▸ rs) p n (by rw [List.length_map, sortB_len]; exact small64 hn) (strs_rep fun x hx => by
            have := List.all_eq_true.mp hok x (sortB_mem.mp hx)
            unfold keyOkS at this
            rw [Bool.and_eq_true] at this
            exact ⟨this.1, of_decide_eq_true this.2⟩)
        · cases e
    · rw [if_neg h64] at e; cases e
  · cases e⟩
end
end BV
/-! The by-value calculus: a law's head, with exceptions' classes and tables. -/
namespace BV
open PySem PySem.Spec PyProof.Rows L2
open He (ba eqO eqO_ok ga ma)

/-- the j-th statement of a class -/
def clsDef (s : Stmt) (j : Nat) : Stmt := match s with
  | .ClassDef _ _ _ b _ _ _ _ _ _ _ => b.getD j (.Pass ⟨0, 0, 0, 0⟩)
  | _ => .Pass ⟨0, 0, 0, 0⟩
/-! ### exceptions' classes, looked at -/
def excOb (C : Addr) : Obj → Bool
  | ⟨.type ty, _, .cls cd, sl⟩ => decide (ty = "type") && match cd.mro, sl.toList with
    | .ref C' :: bm, [_, _, _, _, some (.builtin n), _] => decide (C' = C) && (decide (n = "ValueError.__new__") && (!cd.hasDel && (cd.hasDict && PySem.HandSPX.refsVE bm)))
    | _, _ => false
  | _ => false
theorem excOb_ok {C : Addr} {ob : Obj} (h : excOb C ob = true) :
    ∃ nm q N bs bm sn sub ab col dd k0 k1 k2 k3 k5, ob = excClassObj nm q C N bs bm true sn sub ab col dd k0 k1 k2 k3 k5 "ValueError.__new__" ∧ PySem.HandSPX.refsVE bm = true := by
  unfold excOb at h
  split at h
  · rename_i ty dd cd sl
    obtain ⟨h1, h2⟩ := ba h
    have ety := of_decide_eq_true h1
    subst ety
    split at h2
    · rename_i C' bm k0 k1 k2 k3 n k5 em es
      obtain ⟨a1, h3⟩ := ba h2
      obtain ⟨a2, h4⟩ := ba h3
      obtain ⟨a3, h5⟩ := ba h4
      obtain ⟨a4, a5⟩ := ba h5
      have e1 := of_decide_eq_true a1
      have e2 := of_decide_eq_true a2
      subst e1 e2
      obtain ⟨nm, bs, mro, N, q, hd, sn, sub, ab, col, dl⟩ := cd
      obtain ⟨l⟩ := sl
      dsimp only at em es a3 a4
      subst em es
      have e3 : dl = false := by cases dl <;> first | rfl | cases a3
      subst e3 a4
      exact ⟨nm, q, N, bs, bm, sn, sub, ab, col, dd, k0, k1, k2, k3, k5, rfl, a5⟩
    · cases h2
  · cases h
def oexB (K : PySem.W.Frag) (C : Addr) : Bool := (match K.lookup C with
  | some ob => excOb C ob
  | none => false) && (eqO (PySem.W.findIn K (.ref C) "__setattr__") (some (some (.builtin "object.__setattr__"))) && (decide (PySem.W.subIn K (.ref C) (.type "BaseException") = some true) && (decide (PySem.W.typeIn K (.ref C) = some (.type "type")) && PySem.W.keepIn K (.ref C))))
theorem oexB_ok {K : PySem.W.Frag} {C : Addr} (h : oexB K C = true) : OexC K C := by
  obtain ⟨h1, h2⟩ := ba h
  obtain ⟨h3, h4⟩ := ba h2
  obtain ⟨h5, h6⟩ := ba h4
  obtain ⟨h7, h8⟩ := ba h6
  refine ⟨?_, eqO_ok h3, of_decide_eq_true h5, of_decide_eq_true h7, h8⟩
  cases q : K.lookup C with
  | none =>
    rw [q] at h1
    cases h1
  | some ob =>
    rw [q] at h1
    obtain ⟨nm, qn, N, bs, bm, sn, sub, ab, col, dd, k0, k1, k2, k3, k5, e, r⟩ := excOb_ok h1
    exact ⟨nm, qn, N, bs, bm, sn, sub, ab, col, dd, k0, k1, k2, k3, k5, congrArg some e, r⟩
def baseB (K : PySem.W.Frag) (B : Addr) : Bool := PySem.W.readsIn K B (.type "type") && (eqO (PySem.W.specialIn K (.ref B) "__getattribute__") (some (some (.builtin "type.__getattribute__"))) && match PySem.W.findCls K (.ref B) (.type "type") "__init__" with
  | some (.val (.builtin n)) => decide (n = "ValueError.__init__")
  | _ => false)
theorem baseB_ok {K : PySem.W.Frag} {B : Addr} (h : baseB K B = true) : BaseX K B := by
  obtain ⟨h1, h2⟩ := ba h
  obtain ⟨h3, h4⟩ := ba h2
  refine ⟨h1, eqO_ok h3, ?_⟩
  split at h4
  · rename_i n e
    rw [e, of_decide_eq_true h4]
  · cases h4
/-- the class x keeps f -/
def oexF (K : PySem.W.Frag) (x f : Str) : Bool := oexB K (ga K x) && (eqO (PySem.W.findIn K (.ref (ga K x)) "__init__") (some (some (.ref (ma K (ga K x) "__init__")))) && (decide (PySem.W.typeIn K (.ref (ma K (ga K x) "__init__")) = some (.type "function")) && eqO (PySem.W.findIn K (.ref (ga K x)) f) (some none)))
theorem oexF_ok {K : PySem.W.Frag} {x f : Str} (h : oexF K x f = true) : OexC K (ga K x) ∧ PySem.W.findIn K (.ref (ga K x)) "__init__" = some (some (.ref (ma K (ga K x) "__init__"))) ∧ PySem.W.typeIn K (.ref (ma K (ga K x) "__init__")) = some (.type "function") ∧ PySem.W.findIn K (.ref (ga K x)) f = some none := by
  obtain ⟨h1, h2⟩ := ba h
  obtain ⟨h3, h4⟩ := ba h2
  obtain ⟨h5, h6⟩ := ba h4
  exact ⟨oexB_ok h1, eqO_ok h3, of_decide_eq_true h5, eqO_ok h6⟩
theorem excP_of {K : PySem.W.Frag} {h : Heap} {mg : Str → Option Value} {x : Str} (X : K.In h) (Gn : h.Ns mainGlobals mg) (c1 : (He.Fa.glo x).ok K = true) (c2 : (He.Fa.exc x).ok K = true) : ExcP K mg x := ⟨⟨_, He.glo_ok X Gn c1, He.exc_ok c2⟩⟩
theorem excF_of {P : Program} {w : World} {K : PySem.W.Frag} {h : Heap} {mg : Str → Option Value} {base : Heap} {x f v qual txt : Str} {params : Arguments} {body : List Stmt} {scope : Scope} {ivs dvs : List V} {fd : FuncData} {j : Nat} {p1 p2 p3 q1 q2 q3 q4 q5 q6 r1 r2 r3 r4 : Pos} {pl : PySem.Env → Sem Bool}
    (X : K.In h) (Gn : h.Ns mainGlobals mg) (c1 : (He.Fa.glo x).ok K = true) (c2 : oexF K x f = true) (c3 : (He.Fa.glo "CastError").ok K = true) (c4 : baseB K (ga K "CastError") = true)
    (F : FunD K "__init__" qual params body scope ivs [] (ma K (ga K x) "__init__") fd) (Sc : FnScope ["self", v] ["self", v] scope)
    (hb : body = [.Expr (.Call (.Attribute (.Name "CastError" p1) "__init__" p2) [.Name "self" p3, .JoinedStr [.Constant (.str txt) j q1, .FormattedValue (.Name v q2) (-1) none q3] q4] [] q5) q6, .Assign [.Attribute (.Name "self" r1) f r2] (.Name v r3) r4])
    (hg : scope.names.lookup ("CastError" : Str) = some .globalImplicit) (hs : scope.names.lookup ("self" : Str) = some .local) (hv : scope.names.lookup v = some .local) (hd : (v == ("__debug__" : Str)) = false) (hcd : (v == ("__classdict__" : Str)) = false) (ht : txt.length ≤ 100)
    (hc : ∀ (env : PySem.Env), eval (.Call (.Attribute (.Name "CastError" p1) "__init__" p2) [.Name "self" p3, .JoinedStr [.Constant (.str txt) j q1, .FormattedValue (.Name v q2) (-1) none q3] q4] [] q5) env = (do
      let ov ← eval (.Name "CastError" p1) env
      standAt p2.atName
      let (f, first) ← holding [ov] (getMethod ov "__init__" (pl env))
      callWith q5 f first (backTo q5 (starEach [.Name "self" p3, .JoinedStr [.Constant (.str txt) j q1, .FormattedValue (.Name v q2) (-1) none q3] q4] env)) (backToKw q5 (keywordEach [] env))))
    (bi : ∃ ds, Vals dvs ds ∧ Binds K fd ["self", v] ds) : ExcF P w K mg base x f dvs := by
  obtain ⟨k1, k2, k3, k4⟩ := oexF_ok c2
  obtain ⟨ds, rd, b⟩ := bi
  exact ⟨⟨ga K x, _, fd, _, ds, He.glo_ok X Gn c1, k1, k2, k3, k4, init_ok F Sc (baseB_ok c4) (He.glo_ok X Gn c3) hb hg hs hv hd hcd ht hc, b, rd⟩⟩
/-! ### the hook -/
def frB (n : Nat) (g : Addr → Option Obj) : PySem.W.Frag := He.frT g (cStatics :: He.asD g n)
abbrev AlB : Type := He.AlT × Bool
def obsB (n : Nat) (fa : List He.Fa) (fn : List He.DefD) (ts : List He.Tab) (ex : List (PySem.W.Frag → Bool)) (g : Addr → Option Obj) : AlB := (He.obsT fa fn ts (frB n g), ex.all fun e => e (frB n g))
def valB (fn : List He.DefD) (ts : List He.Tab) (w : World) : AlB := (He.valT fn ts w, true)
structure SaysB (fa : List He.Fa) (fn : List He.DefD) (ts : List He.Tab) (ex : List (PySem.W.Frag → Bool)) (w : World) (K : PySem.W.Frag) : Prop where
  t : He.SaysT fa fn ts w K
  more : (ex.all fun e => e K) = true
def hookB (n : Nat) (fa : List He.Fa) (fn : List He.DefD) (ts : List He.Tab) (ex : List (PySem.W.Frag → Bool)) : PySem.W.Hook where
  α := AlB
  obs := fun s => obsB n fa fn ts ex s.heap.get?
  val := fun w => valB fn ts w
  says := fun w h => ∃ K : PySem.W.Frag, K.In h ∧ SaysB fa fn ts ex w K
  of := fun _ _ e => ⟨_, He.frT_in, ⟨congrArg (fun z : AlB => z.1) e, congrArg (fun z : AlB => z.2) e⟩⟩
  keeps := fun _ _ _ ⟨K, i, c⟩ k => ⟨K, PySem.W.Frag.In.keeps i k, c⟩
theorem obsB_eq {n : Nat} {fa : List He.Fa} {fn : List He.DefD} {ts : List He.Tab} {ex : List (PySem.W.Frag → Bool)} {g : Addr → Option Obj} {s : Shared} (h : ∀ a, g a = s.heap.get? a) : obsB n fa fn ts ex g = (hookB n fa fn ts ex).obs s := by
  have e : g = s.heap.get? := funext h
  rw [e]
  rfl
section
variable {fa : List He.Fa} {fn : List He.DefD} {ts : List He.Tab} {ex : List (PySem.W.Frag → Bool)} {w : World} {K : PySem.W.Frag}
theorem SaysB.fact (c : SaysB fa fn ts ex w K) (i : Nat) {f : He.Fa} (h : fa[i]? = some f := by rfl) : f.ok K = true := c.t.d.fact i h
theorem SaysB.def_ (c : SaysB fa fn ts ex w K) (i : Nat) {d : He.DefD} (h : fn[i]? = some d := by rfl) : ∃ fd, FunD K d.name d.qual d.params d.body d.scope (d.dvs K) (d.kws K) (He.fAd K d.at_) fd := c.t.d.def_ i h
theorem SaysB.more_ (c : SaysB fa fn ts ex w K) (i : Nat) {e : PySem.W.Frag → Bool} (h : ex[i]? = some e := by rfl) : e K = true := List.all_eq_true.mp c.more e (List.mem_of_getElem? h)
end
end BV
/-! The by-value calculus: try, exceptions caught. -/
namespace BV
open PySem PySem.Spec PyProof.Rows L2
open He (ba eqO eqO_ok ga)

/-! ### exceptions by name -/
def excAll : List Str := ["NoHoles", "NoCase", "NoName", "NoLayout", "Tight", "Loose", "NoLines", "TooMany", "NoEnd", "NoMold", "NoLine", "NoPaper", "NoText", "NoRow", "NoStep", "CastError"]
def isExc (x : Str) : Bool := decide (x ∈ excAll)
/-- an exception x is caught by «except c» -/
def exmB (x c : Str) : Bool := decide (x = c) || (decide (c = "CastError") || decide (c = "ValueError"))
def excPre (K : PySem.W.Frag) (p : Addr → Str → Bool) : Bool := excAll.all fun x => eqO (PySem.W.nsIn K mainGlobals x) (some none) || (eqO (PySem.W.nsIn K mainGlobals x) (some (some (.ref (ga K x)))) && p (ga K x) x)
section
variable {K : PySem.W.Frag} {h : Heap} {mg : Str → Option Value}
theorem excPre_ok {p : Addr → Str → Bool} (X : K.In h) (Gn : h.Ns mainGlobals mg) (c : excPre K p = true) {x : Str} {D : Addr} (hx : isExc x = true) (hm : mg x = some (.ref D)) : PySem.W.nsIn K mainGlobals x = some (some (.ref D)) ∧ p D x = true := by
  have := List.all_eq_true.mp c x (of_decide_eq_true hx)
  rw [Bool.or_eq_true] at this
  rcases this with e | e
  · have := PySem.W.mg_none_of X Gn (eqO_ok e)
    rw [hm] at this
    cases this
  · obtain ⟨e1, e2⟩ := ba e
    have e3 := eqO_ok e1
    have := PySem.W.mg_of X Gn e3
    rw [hm] at this
    cases this
    exact ⟨e3, e2⟩
theorem excPre_at {p : Addr → Str → Bool} (c : excPre K p = true) {x : Str} {D : Addr} (hx : isExc x = true) (hm : PySem.W.nsIn K mainGlobals x = some (some (.ref D))) : p D x = true := by
  have := List.all_eq_true.mp c x (of_decide_eq_true hx)
  rw [Bool.or_eq_true] at this
  rcases this with e | e
  · have e3 := eqO_ok e
    rw [hm] at e3
    cases e3
  · obtain ⟨e1, e2⟩ := ba e
    have e3 := eqO_ok e1
    rw [hm] at e3
    simp only [Option.some.injEq, Value.ref.injEq] at e3
    rw [e3]
    exact e2
end
structure ExmF (K : PySem.W.Frag) (mg : Str → Option Value) (c : Str) : Prop where
  ex : ∃ C, mg c = some (.ref C) ∧ ∀ x D, isExc x = true → mg x = some (.ref D) → PySem.W.nsIn K mainGlobals x = some (some (.ref D)) ∧ PySem.W.exmOne K (.ref D) (.ref C) = some (exmB x c)
def exmAll (K : PySem.W.Frag) (c : Str) : Bool := eqO (PySem.W.nsIn K mainGlobals c) (some (some (.ref (ga K c)))) && excPre K fun D x => decide (PySem.W.exmOne K (.ref D) (.ref (ga K c)) = some (exmB x c))
theorem exmF_of {K : PySem.W.Frag} {h : Heap} {mg : Str → Option Value} {c : Str} (X : K.In h) (Gn : h.Ns mainGlobals mg) (hc : exmAll K c = true) : ExmF K mg c := by
  obtain ⟨h1, h2⟩ := ba hc
  refine ⟨ga K c, PySem.W.mg_of X Gn (eqO_ok h1), fun x D hx hm => ?_⟩
  obtain ⟨e1, e2⟩ := excPre_ok X Gn h2 hx hm
  exact ⟨e1, of_decide_eq_true e2⟩
/-! ### try, without names -/
abbrev Cc.suite (G : Cc) (hx : HotX) : Cc := { G with top := false, hot := some hx, raw := false }
/-- a try's body -/
abbrev Cc.tr (G : Cc) : Cc := { G with raw := false }
def calmF : Fl → Fl
  | .ex _ _ _ => .bad
  | r => r
def hdl : List (Str × SS) → Exc → En → Sto → Fl
  | [], e, ρ, S => .ex e ρ S
  | (c, g) :: r, e, ρ, S => if exmB e.cls c then calmF (g ρ S) else hdl r e ρ S
def sTry (g : SS) (hs : List (Str × SS)) : SS := fun ρ S => match g ρ S with
  | .ex e ρ1 S1 => if isExc e.cls then hdl hs e ρ1 S1 else .bad
  | r => r
inductive HV (G : Cc) : List ExceptHandler → List (Str × SS) → Prop
  | nil : HV G [] []
  | cons {c : Str} {np pos' : Pos} {b₀ : Stmt} {suite : List Stmt} {g : SS} {hds : List ExceptHandler} {l : List (Str × SS)} (hE : ExmF G.K G.mg c) (hg : G.sc.names.lookup c = some .globalImplicit) (hdb : (c == ("__debug__" : Str)) = false)
      (hs : ∀ hx : HotX, SVs (G.suite hx) (b₀ :: suite) g) (r : HV G hds l) : HV G (.ExceptHandler (some (.Name c np)) none (b₀ :: suite) pos' :: hds) ((c, g) :: l)
theorem okTr {G : Cc} {X : Cx} {W W' : WX} {pn : List (Addr × Obj)} {xe : Value → Shared → Prop} (k : G.Ok X W) (hcm : G.hot = none) (tk : Tk G.cn (X.tr pn xe) W') (po : PassesOwn (model X.prog X.w) X.A X.env xe) : G.tr.Ok (X.tr pn xe) W' :=
  ⟨k.P, k.w, k.K, k.mg, k.base, k.N, k.sc, k.fn, k.calm, k.room, tk, po, k.hd, k.top, fun h e => (by rw [show G.tr.hot = G.hot from rfl, hcm] at e; cases e), fun h => (nomatch h), k.cod⟩
theorem okSuite {G : Cc} {X : Cx} {W : WX} {a C : Addr} {oe : Obj} {d : Option Addr} {pn : List (Addr × Obj)} (k : G.Ok X W) (hz : Zc (.ref C) d oe) (hf : ∃ vs, oe.data = .fields vs) : (G.suite ⟨a, C, d⟩).Ok (X.suite a ((a, oe) :: pn)) (fun _ _ _ _ => False) :=
  ⟨k.P, k.w, k.K, k.mg, k.base, k.N, k.sc, k.fn, fun h => (nomatch h), ⟨k.room.dp, k.room.un⟩, takesN, PassesOwn.never, fun h => (nomatch h), fun h => (nomatch h), fun h e => (by
    cases e
    obtain ⟨vs, hv⟩ := hf
    exact ⟨oe, ⟨rfl, vs, hv⟩, List.mem_cons_self, hz, vs, hv⟩), fun h => (nomatch h), k.cod⟩
section
variable {G : Cc} {pos : Pos}
/-- the handlers' readings -/
theorem hv_read {hds : List ExceptHandler} {l : List (Str × SS)} (h : HV G hds l) : ∃ rs : List (Value × (Addr → Value → Option Addr → TS)), (∀ X W, G.Ok X W → L2N.HdsOk X hds rs ∧ L2.HdsOk X hds rs) ∧ ∀ W D e ρ S σ H o c C d, NT o → RS G.K o c ρ S σ H → isExc e.cls = true → G.mg e.cls = some (.ref C) → ExcR G.mg H (.ref C) d e →
    PostS G W o c H (hdl l e ρ S) D → wMany G.K W D rs (.ref C) d σ H := by
  induction h with
  | nil => exact ⟨[], fun _ _ _ => ⟨.nil, .nil⟩, fun W D e ρ S σ H o c C d nt rs hx hm r p => p _ _ σ o c H Step.refl nt rs r⟩
  | @cons c np pos' b₀ suite g hds l hE hg hdb hs r ih =>
    obtain ⟨rs, q1, q2⟩ := ih
    obtain ⟨Cc', hcm, hE'⟩ := hE.ex
    let ts : Addr → Value → Option Addr → TS := fun a cls d => match cls with
      | .ref C => (hs ⟨a, C, d⟩).choose fun _ _ _ _ => False
      | _ => fun _ _ _ => False
    refine ⟨(.ref Cc', ts) :: rs, fun X W k => ?_, fun W D e ρ S σ H o c0 C d nt rs' hx hm r' p => ?_⟩
    · have su : ∀ (a : Addr) (oe : Obj) (cls : Value) (d : Option Addr) (pn : List (Addr × Obj)), Zc cls d oe → (∃ vs, oe.data = .fields vs) → PSs (X.suite a ((a, oe) :: pn)) (b₀ :: suite) (ts a cls d) := fun a oe cls d pn hz hf => by
        cases cls with
        | ref C => exact (hs ⟨a, C, d⟩).choose_spec.1 _ _ (okSuite k hz hf)
        | _ => exact ⟨fun _ _ _ _ _ _ z => z.elim⟩
      exact ⟨.cons ⟨k.gl hg, hdb, .inl (k.m hcm)⟩ (fun a oe cls d pn hz hf => su a oe cls d pn hz.zc hf) (q1 X W k).1, .cons ⟨k.gl hg, hdb, .inl (k.m hcm)⟩ su (q1 X W k).2⟩
    · refine ⟨exmB e.cls c, (hE' _ _ hx hm).2, fun hb a na => ?_, fun hb => ?_⟩
      · have p' : PostS G W o c0 H (calmF (g ρ S)) D := by unfold hdl at p; rw [hb] at p; exact p
        refine (hs ⟨a, C, d⟩).choose_spec.2 _ σ H ρ S o c0 D nt rs' ?_
        cases eg : g ρ S with
        | ex _ _ _ => rw [eg] at p'; exact p'.elim
        | nx _ _ => rw [eg] at p'; exact p'
        | bk _ _ => rw [eg] at p'; exact p'
        | ct _ _ => rw [eg] at p'; exact p'
        | rt _ _ => rw [eg] at p'; exact p'
        | bad => rw [eg] at p'; exact p'.elim
      · have p' : PostS G W o c0 H (hdl l e ρ S) D := by unfold hdl at p; rw [hb] at p; exact p
        exact q2 W D e ρ S σ H o c0 C d nt rs' hx hm r' p'
theorem sv_try {body : List Stmt} {h₀ : ExceptHandler} {hds : List ExceptHandler} {g : SS} {l : List (Str × SS)} (hb : SVs G.tr body g) (hh : HV G (h₀ :: hds) l) (hcm : G.hot = none := by rfl) (htop : G.top = true := by rfl) : SV G (.Try body (h₀ :: hds) [] [] pos) (sTry g l) := by
  obtain ⟨tb, pb, qb⟩ := hb
  obtain ⟨rs, q1, q2⟩ := hv_read hh
  refine ⟨fun W D σ H => tb (wMany G.K W D rs) D σ H, fun X W k => ?_, fun W σ H ρ S o c D nt rs' ps => ?_⟩
  · obtain ⟨t1, t2⟩ := k.top htop
    have hK := k.K
    cases hcn : G.cn with
    | true =>
      have tk : L2N.Takes X W := k.tk.n
      have := L2N.ps_try_many (pos := pos) t1 t2 tk (fun W' pn xe tk po => pb _ _ (okTr k hcm (by rw [hcn]; exact tk) po)) (q1 X W k).1
      rw [hK] at this
      exact this
    | false =>
      have tk : L2.Takes X W := by
        have := k.tk
        rw [hcn] at this
        exact this
      have := L2.ps_try_many (pos := pos) t1 t2 tk (fun W' pn xe tk po => pb _ _ (okTr k hcm (by rw [hcn]; exact tk) po)) (q1 X W k).2
      rw [hK] at this
      exact this
  · refine qb _ σ H ρ S o c D nt rs' ?_
    unfold sTry at ps
    cases eg : g ρ S with
    | ex e ρ1 S1 =>
      rw [eg] at ps
      intro cls d σ' o' c' H' s' nt' r' x
      simp only at ps
      by_cases hx : isExc e.cls = true
      · rw [if_pos hx] at ps
        obtain ⟨C, rfl, hm, rest⟩ := id x
        exact q2 W D e ρ1 S1 σ' H' o' c' C d nt' r' hx hm x (ps.step s')
      · rw [if_neg hx] at ps
        exact ps.elim
    | nx _ _ => rw [eg] at ps; exact ps
    | bk _ _ => rw [eg] at ps; exact ps
    | ct _ _ => rw [eg] at ps; exact ps
    | rt _ _ => rw [eg] at ps; exact ps
    | bad => rw [eg] at ps; exact ps.elim
end
end BV
/-! The by-value calculus: more built-ins, methods of what was just made. -/
namespace BV
open PySem PySem.Spec PyProof.Rows L2

/-! ### min, max of a list of numbers -/
def minI : List Int → Option Int
  | [] => none
  | x :: xs => some (xs.foldl (fun a b => if b < a then b else a) x)
def maxI : List Int → Option Int
  | [] => none
  | x :: xs => some (xs.foldl (fun a b => if a < b then b else a) x)
theorem foldl_min : ∀ (xs : List Int) (x : Int), let m := xs.foldl (fun a b => if b < a then b else a) x; (m = x ∨ m ∈ xs) ∧ m ≤ x ∧ ∀ y ∈ xs, m ≤ y
  | [], x => ⟨.inl rfl, Int.le_refl _, fun y h => nomatch h⟩
  | z :: xs, x => by
    have ih := foldl_min xs (if z < x then z else x)
    simp only [List.foldl_cons]
    generalize xs.foldl (fun a b => if b < a then b else a) (if z < x then z else x) = m at ih
    obtain ⟨h1, h2, h3⟩ := ih
    by_cases q : z < x
    · rw [if_pos q] at h1 h2
      refine ⟨.inr ?_, by omega, fun y hy => ?_⟩
      · rcases h1 with e | e
        · rw [e]; exact List.mem_cons_self ..
        · exact List.mem_cons_of_mem _ e
      · rcases List.mem_cons.mp hy with e | e
        · rw [e]; exact h2
        · exact h3 y e
    · rw [if_neg q] at h1 h2
      refine ⟨?_, h2, fun y hy => ?_⟩
      · rcases h1 with e | e
        · exact .inl e
        · exact .inr (List.mem_cons_of_mem _ e)
      · rcases List.mem_cons.mp hy with e | e
        · rw [e]; omega
        · exact h3 y e
theorem foldl_max : ∀ (xs : List Int) (x : Int), let m := xs.foldl (fun a b => if a < b then b else a) x; (m = x ∨ m ∈ xs) ∧ x ≤ m ∧ ∀ y ∈ xs, y ≤ m
  | [], x => ⟨.inl rfl, Int.le_refl _, fun y h => nomatch h⟩
  | z :: xs, x => by
    have ih := foldl_max xs (if x < z then z else x)
    simp only [List.foldl_cons]
    generalize xs.foldl (fun a b => if a < b then b else a) (if x < z then z else x) = m at ih
    obtain ⟨h1, h2, h3⟩ := ih
    by_cases q : x < z
    · rw [if_pos q] at h1 h2
      refine ⟨.inr ?_, by omega, fun y hy => ?_⟩
      · rcases h1 with e | e
        · rw [e]; exact List.mem_cons_self ..
        · exact List.mem_cons_of_mem _ e
      · rcases List.mem_cons.mp hy with e | e
        · rw [e]; exact h2
        · exact h3 y e
    · rw [if_neg q] at h1 h2
      refine ⟨?_, h2, fun y hy => ?_⟩
      · rcases h1 with e | e
        · exact .inl e
        · exact .inr (List.mem_cons_of_mem _ e)
      · rcases List.mem_cons.mp hy with e | e
        · rw [e]; omega
        · exact h3 y e
theorem minI_spec {xs : List Int} {m : Int} (h : minI xs = some m) : m ∈ xs ∧ ∀ y ∈ xs, m ≤ y := by
  cases xs with
  | nil => cases h
  | cons x xs =>
    cases h
    obtain ⟨h1, h2, h3⟩ := foldl_min xs x
    refine ⟨?_, fun y hy => ?_⟩
    · rcases h1 with e | e
      · rw [e]; exact List.mem_cons_self ..
      · exact List.mem_cons_of_mem _ e
    · rcases List.mem_cons.mp hy with e | e
      · rw [e]; exact h2
      · exact h3 y e
theorem maxI_spec {xs : List Int} {m : Int} (h : maxI xs = some m) : m ∈ xs ∧ ∀ y ∈ xs, y ≤ m := by
  cases xs with
  | nil => cases h
  | cons x xs =>
    cases h
    obtain ⟨h1, h2, h3⟩ := foldl_max xs x
    refine ⟨?_, fun y hy => ?_⟩
    · rcases h1 with e | e
      · rw [e]; exact List.mem_cons_self ..
      · exact List.mem_cons_of_mem _ e
    · rcases List.mem_cons.mp hy with e | e
      · rw [e]; exact h2
      · exact h3 y e
def gMin1 : List D → Option T
  | [.list ds] => (intsOf ds).bind fun ns => (minI ns).map fun m => .val (.int m)
  | _ => none
def gMax1 : List D → Option T
  | [.list ds] => (intsOf ds).bind fun ns => (maxI ns).map fun m => .val (.int m)
  | _ => none
section
variable {G : Cc}
theorem bf_min1 (hcm : G.hot = none := by rfl) : BF G "min" gMin1 := ⟨"min", _, by first | exact boot_min | exact PyProof.Rows.boot_min, fun X W k => by have := cr_min (X := X) (k.calm hcm); rw [k.K] at this; exact this, by
  intro G' W o c ρ S σ H vs ds t Q hK rs r e p
  rw [← hK] at r ⊢
  unfold gMin1 at e
  split at e
  · rename_i es
    obtain ⟨v, rfl, r'⟩ := r.one
    cases ei : intsOf es with
    | none => rw [ei] at e; cases e
    | some ns =>
      rw [ei, Option.bind_some] at e
      cases em : minI ns with
      | none => rw [em] at e; cases e
      | some m =>
        rw [em] at e
        cases e
        obtain ⟨a, us, e1, h1, _, z1, ra⟩ := r'.lstV
        subst e1
        rw [ints_inv ei] at ra
        have eu := rep_ints ra
        subst eu
        obtain ⟨m1, m2⟩ := minI_spec em
        refine ⟨a, ns, rfl, .of h1, List.length_pos_iff.mpr (List.ne_nil_of_mem m1), fun m' a1 a2 => ?_⟩
        have : m' = m := by have := a2 m m1; have := m2 m' a1; omega
        rw [this]
        exact post_val (hK ▸ rs) p (.int m)
  · cases e⟩
theorem bf_max1 (hcm : G.hot = none := by rfl) : BF G "max" gMax1 := ⟨"max", _, by first | exact boot_max | exact PyProof.Rows.boot_max, fun X W k => by have := cr_max (X := X) (k.calm hcm); rw [k.K] at this; exact this, by
  intro G' W o c ρ S σ H vs ds t Q hK rs r e p
  rw [← hK] at r ⊢
  unfold gMax1 at e
  split at e
  · rename_i es
    obtain ⟨v, rfl, r'⟩ := r.one
    cases ei : intsOf es with
    | none => rw [ei] at e; cases e
    | some ns =>
      rw [ei, Option.bind_some] at e
      cases em : maxI ns with
      | none => rw [em] at e; cases e
      | some m =>
        rw [em] at e
        cases e
        obtain ⟨a, us, e1, h1, _, z1, ra⟩ := r'.lstV
        subst e1
        rw [ints_inv ei] at ra
        have eu := rep_ints ra
        subst eu
        obtain ⟨m1, m2⟩ := maxI_spec em
        refine ⟨a, ns, rfl, .of h1, List.length_pos_iff.mpr (List.ne_nil_of_mem m1), fun m' a1 a2 => ?_⟩
        have : m' = m := by have := a2 m m1; have := m2 m' a1; omega
        rw [this]
        exact post_val (hK ▸ rs) p (.int m)
  · cases e⟩
/-! ### divmod -/
def gDivmod : List D → Option T
  | [.int i, .int j] => if divOk j then some (.val (.tuple [.int (i / j), .int (i % j)])) else none
  | _ => none
theorem divP_ofOk {i j : Int} (h : divOk j = true) : CDivP i j := by
  unfold divOk at h
  rw [Bool.and_eq_true] at h
  exact ⟨of_decide_eq_true h.1, PyProof.noPylong_of_log2 (of_decide_eq_true h.2)⟩
theorem bf_divmod : BF G "divmod" gDivmod := ⟨"divmod", _, by decide +kernel, fun X W k => call_divmodW, by
  intro G' W o c ρ S σ H vs ds t Q hK rs r e p
  unfold gDivmod at e
  split at e
  · split at e
    · rename_i hd
      cases e
      obtain ⟨v, w, rfl, r1, r2⟩ := r.two
      rw [r1.intV, r2.intV]
      refine ⟨_, _, rfl, divP_ofOk hd, fun q n => ?_⟩
      exact post_tup (hK ▸ rs) p n (by show 2 ≤ sizeLine; decide) (.cons _ _ _ _ (.int _) (.cons _ _ _ _ (.int _) .nil))
    · cases e
  · cases e⟩
end
end BV
/-! The by-value calculus: a method that changes a list just made. -/
namespace BV
open PySem L2

section
variable {K : PySem.W.Frag} {G : Cc} {W : WX} {o o1 : Gh} {c c1 : Cs} {ρ : En} {S : Sto} {σ : L2.St} {H H1 : Hp} {pos : Pos} {a : Addr} {u : HO} {w : Ow} {v : V} {t : T}
theorem tmp_cs (q : CS K o c S H) (h : o a = some .tmp) (ou : Ownable u) : CS K o c S (upd H a u) :=
  q.move (write_kept (by rw [h]; simp)) (fun b n e => ⟨e, fun x hx => by rw [upd_ne (fun z => by rw [z, h] at e; cases e)]; exact hx⟩) fun b n => by
    by_cases z : b = a
    · subst z; exact ⟨u, upd_same, ou⟩
    · obtain ⟨x, e, q⟩ := q.trk b n
      exact ⟨x, by rw [upd_ne z]; exact e, q⟩
theorem RepT.tmpW (tr : Trk o H) (h : o a = some .tmp) (hw : w ≠ .tmp) (r : RepT K o c H w v t) : RepT K o c (upd H a u) w v t := by
  have k : Kept o H o (upd H a u) := write_kept (by rw [h]; simp)
  have ne : ∀ b, o b = some w → b ≠ a := fun b e z => by rw [z, h] at e; cases e; exact hw rfl
  cases t with
  | val d => exact Rep.kept tr k r
  | own xs =>
    obtain ⟨x, vs, e, q, h', z, ra⟩ := r
    exact ⟨x, vs, e, q, by rw [upd_ne (ne _ q)]; exact h', z, ra.kept tr k⟩
  | own2 xss =>
    obtain ⟨x, as, e, q, h', nd, z, le, f⟩ := r
    refine ⟨x, as, e, q, by rw [upd_ne (ne _ q)]; exact h', nd, z, le, fun i b xs e1 e2 => ?_⟩
    obtain ⟨q', vs, h'', z', ra⟩ := f i b xs e1 e2
    exact ⟨q', vs, by rw [upd_ne (ne _ q')]; exact h'', z', ra.kept tr k⟩
  | ownd tk kvs =>
    obtain ⟨x, ks, vs, ds, e, q, h', z, z2, ra, e'⟩ := r
    exact ⟨x, ks, vs, ds, e, q, h'.kept (fun u hu => by rw [upd_ne (ne _ q)]; exact hu) (fun b us zz => SqT.kept tr k zz), z, z2, ra.kept tr k, e'⟩
  | cel n => exact r
  | scr ns =>
    obtain ⟨x, e, z, h'⟩ := r
    refine ⟨x, e, z, ?_⟩
    rcases h' with ⟨ob, h'⟩ | ⟨h', n⟩ | h'
    · exact .inl ⟨ob, by rw [upd_ne (fun z => by rw [z] at h'; have := tr.free h' (fun z => z); rw [h] at this; cases this)]; exact h'⟩
    · exact .inr (.inl ⟨by rw [upd_ne (fun z => by rw [z, h] at n; cases n)]; exact h', n⟩)
    · exact .inr (.inr h')
  | exn _ _ _ _ => exact ⟨r.1, r.2.1, r.2.2.kept tr k⟩
  | tree d =>
    obtain ⟨as, r, nd⟩ := r
    exact ⟨as, r.move (fun x u e q => ⟨by rw [upd_ne (ne _ q)]; exact e, q⟩) (fun b us z => SqT.kept tr k z), nd⟩
theorem RS.tmpW (rs : RS K o c ρ S σ H) (h : o a = some .tmp) (ou : Ownable u) : RS K o c ρ S σ (upd H a u) :=
  ⟨rs.len, fun i t e => by
    obtain ⟨v, e1, r⟩ := rs.slot i t e
    exact ⟨v, e1, r.tmpW rs.cs.trk h (by simp)⟩, tmp_cs rs.cs h ou⟩
def sFr (f : SE) (m : List BV.D → List BV.D → Option (List BV.D × BV.D)) (ds : List BV.D) : SS := sE f (fun t ρ S => match t with
  | .own xs => (match m xs ds with | some _ => .nx ρ S | none => .bad)
  | _ => .bad)
theorem sv_fr {e b : Expr} {f : SE} {nm : Str} {m : List BV.D → List BV.D → Option (List BV.D × BV.D)} {ap cp : Pos} {y : V} {d : BV.D} (L : LM G nm m) (he : EV G e f) (hb : ∀ X, PE X b (tC y)) (hd : ∀ K o H, Rep K o H y d)
    (hbase : ∀ env : PySem.Env, attributeBase e nm env (eval e env) = eval e env := by intro _; rfl)
    (hfew : ∀ env : PySem.Env, ((backTo cp (starEach [b] env)).all (fun x => !x.1) && (backToKw cp (keywordEach [] env)).all (fun x => x.1.isSome) && decide (([b] : List Expr).length + ([] : List Keyword).length + (if ([] : List Keyword).isEmpty then 0 else 1) < 30)) = true := by intro _; rfl)
    (hline : (ap.endLine == cp.line) = true := by rfl) (hs : ∀ env : PySem.Env, starEach [b] env = (false, eval b env) :: starEach [] env := by intro _; rfl) (hpl : ∀ env : PySem.Env, (backTo cp (starEach [] env)).any (·.1) = false := by intro _; rfl)
    (hw : ∀ env : PySem.Env, swapsWith (.Call (.Attribute e nm ap) [b] [] cp) none pos.line env = pure false := by intro _; rfl) :
    SV G (.Expr (.Call (.Attribute e nm ap) [b] [] cp) pos) (sFr f m [d]) := by
  obtain ⟨t, p, q⟩ := he
  obtain ⟨id, r, sl, ty, hr, hm⟩ := L.ex
  refine ⟨fun W => tDrop (tBM G.K "list" r (t W) (tCons (tC y) tNil)), fun X W k => ps_expr ?_ (hw _), fun W σ H ρ S o c D nt rs ps => ?_⟩
  · have := pe_bm (X := X) PySem.F.plainAttrs_list sl ty (hr X W k) (p X W k) (pa_cons (hb X) pa_nil (hs _)) (hbase _) (hfew _) hline (hs _) (hpl _)
    rw [k.K] at this
    exact this
  · refine (q W).s nt rs ps fun t S1 v o1 c1 H1 s1 rs1 r1 p1 => ?_
    cases t with
    | own xs =>
      obtain ⟨a, vs, e, h1, h2, h3, h4⟩ := r1
      cases em : m xs [d] with
      | none => simp only [em] at p1; exact p1.elim
      | some x =>
        obtain ⟨xs', d'⟩ := x
        simp only [em] at p1
        subst e
        refine ⟨.inl ⟨rfl, vs, .of h2⟩, ?_⟩
        show r (.ref a) [y] H1 _
        refine hm o1 H1 a vs xs [y] [d] xs' d' _ h2 h3 h4 (.cons _ _ _ _ (hd ..) .nil) em fun v' vs' ra' le' rv' => ?_
        refine p1 σ (unT o1) c1 _ ⟨fun b u e n => ?_, fun b w e n => dropO_some e (by cases w <;> first | rfl | exact absurd trivial n), fun b e n => absurd (dropO_none e) n, List.prefix_refl c1⟩ unT_nt (rs1.tmpW h1 (show Ownable (.lst vs') from trivial)).untmp
        rw [upd_ne (fun z => by subst z; exact n _ h1 trivial)]
        exact e
    | _ => exact p1.elim
end
/-! ### f() -/
section
variable {G : Cc} {pos : Pos}
theorem pe_callS0 {X : Cx} {CX : CXT} {k : Nat} {f : Addr} {fd : FuncData} {ps : List Str} {sp : Sp} {E : L2.St → XK} {x : Str} {p pos : Pos} (F : FnOk X.prog X.w X.K X.mg X.base CX k f fd ps sp) (hr : Room k X.A) (hg : Gl X x) (hm : X.mg x = some (.ref f)) (hk : PySem.W.keepIn X.K (.ref f) = true) (hb : Binds X.K fd ps []) (hx : ∀ σ, PassesAt CX X σ (E σ))
    (hdb : (x == ("__debug__" : Str)) = false) : PE X (.Call (.Name x p) [] [] pos) (tCallS sp E tNil) :=
  ⟨fun pins s σ H Q I h => wpAny_Call_Name_kw (ld_glob I hg hm (PySem.W.callWith_K0 I.kIn hk (run_fnS (us := []) F hr hb (hx σ) I .nil h)) hdb)⟩
theorem ev_call0 {x : Str} {p : Pos} {j : Nat} {f : Fn} (F : FnD G.P G.w G.K G.mg G.base G.cn j x 0 f) (hcm : G.hot = none := by rfl) (hj : j ≤ G.k := by (try dsimp only [Cc.blk]); decide) (hg : G.sc.names.lookup x = some .globalImplicit := by rfl) (hdb : (x == ("__debug__" : Str)) = false := by decide) : EV G (.Call (.Name x p) [] [] pos) (cCall f aNil) := by
  obtain ⟨a, fd, ps, hm, hk, hb, hn, hF⟩ := F.ex
  obtain ⟨t, p1, q1⟩ := (av_nil : AV G [] aNil)
  refine ⟨fun W => tCallS (spD G.K G.mg 0 f) (WE W) tNil, fun X W k => ?_, fun W => er_def (fun σ H ρ S o c Q nt rs p => p [] o c H Step.refl nt rs ⟨rfl, fun i v t e => by simp at e⟩) (fun _ _ _ _ h => aNil_len h)⟩
  have hF' : FnOk X.prog X.w X.K X.mg X.base (CXg G.cn X.prog X.w) j a fd ps (spD G.K G.mg 0 f) := by rw [k.P, k.w, k.K, k.mg, k.base]; exact hF
  exact pe_callS0 hF' ((k.room0 hcm).mono hj) (k.gl hg) (k.m hm) (by rw [k.K]; exact hk) (by rw [k.K]; exact hb) (fun σ => tk_pass k.tk σ) hdb
end
end BV
/-! The by-value calculus: the exception that a suite names. -/
namespace BV
open PySem PySem.Spec PyProof.Rows L2
open He (ba eqO eqO_ok ga)

/-! ### what does not hang on the exception's place -/
open Classical in
noncomputable def uni {α : Type} (b : α) (f : HotX → α) : α := if h : ∃ r, ∀ x, f x = r then h.choose else b
theorem uni_eq {α : Type} {b r : α} {f : HotX → α} (h : ∀ x, f x = r) : uni b f = r := by
  unfold uni
  have e : ∃ r, ∀ x, f x = r := ⟨r, h⟩
  rw [dif_pos e]
  exact (e.choose_spec ⟨0, 0, none⟩).symm.trans (h _)
theorem uni_or {α : Type} (b : α) (f : HotX → α) : (∀ x, f x = uni b f) ∨ uni b f = b := by
  unfold uni
  by_cases e : ∃ r, ∀ x, f x = r
  · rw [dif_pos e]; exact .inl e.choose_spec
  · rw [dif_neg e]; exact .inr rfl

/-! ### the exception held -/
def DOk (H : Hp) : Option Addr → Prop
  | none => True
  | some dd => ∃ fs, H dd = some (.xd fs)
theorem FldR.dok {H : Hp} {d : Option Addr} {e : Exc} (r : FldR H d e) : DOk H d := by
  unfold FldR at r
  split at r
  · subst r; exact True.intro
  · obtain ⟨dd, v, rfl, _, h⟩ := r
    exact ⟨_, h⟩
def Held (X : Cx) (hx : HotX) : Prop := ∃ oe : Obj, Hot0 X.A (hx.a, oe) ∧ (hx.a, oe) ∈ X.pn ∧ Zc (.ref hx.C) hx.d oe ∧ ∃ vs, oe.data = .fields vs
theorem Held.inst {X : Cx} {hx : HotX} {pins : List (Addr × Obj)} {σ : L2.St} {H : Hp} {s : Shared} (k : Held X hx) (I : Inv X pins σ H s) (hd : DOk H hx.d) : ∃ oe od, PySem.W.InstAt s.heap hx.a oe hx.C od := by
  obtain ⟨oe, _, hm, hz, vs, hv⟩ := k
  obtain ⟨hget, _⟩ := I.pin (hx.a, oe) (List.mem_append.mpr (.inl hm))
  have hno : PySem.W.notCls oe = true := by unfold PySem.W.notCls; rw [hv] <;> rfl
  cases e : hx.d with
  | none => exact ⟨oe, none, ⟨hget, hz.1, hno, by rw [hz.2, e]; trivial⟩⟩
  | some dd =>
    rw [e] at hd
    obtain ⟨fs, ea⟩ := hd
    obtain ⟨mA, hns, _⟩ := (show ObjOk X.prog X.w H s.heap dd (.xd fs) from I.hok dd _ ea)
    obtain ⟨od, ho, _⟩ := lookIn_ns hns
    exact ⟨oe, some od, ⟨hget, hz.1, hno, by rw [hz.2, e]; exact ho⟩⟩
theorem kitE {K : PySem.W.Frag} {x D : Addr} {oe : Obj} {od : Option Obj} (C : ExcC K D) : PySem.W.KitX K (.ref x) (.ref D) (fun h => PySem.W.InstAt h x oe D od) := by
  have hcl : (PySem.W.clsIn K D).isSome = true := by
    obtain ⟨cd, hc, _⟩ := PySem.W.any_some C.hd
    rw [hc]; rfl
  exact PySem.W.kitx_exc hcl C.hg C.hk C.hs C.ha C.hn C.ht C.hm
/-- isinstance(e, c) -/
def rIsX (K : PySem.W.Frag) (hx : HotX) : List V → Hp → VK → Prop := fun xs H Q => ∃ (c : V) (u : Value) (b : Bool), xs = [.ref hx.a, c] ∧ ClsV c u ∧ DOk H hx.d ∧ ExcC K hx.C ∧ PySem.W.kitOne K (.ref hx.C) u = some b ∧ Q (.bl b) H
/-- isinstance(e, (c, ..)) -/
def rIsXT (K : PySem.W.Frag) (hx : HotX) : List V → Hp → VK → Prop := fun xs H Q => ∃ (tp : Addr) (cs : List V) (us : List Value) (b : Bool), xs = [.ref hx.a, .ref tp] ∧ H tp = some (.tup cs) ∧ Paired ClsV cs us ∧ DOk H hx.d ∧ ExcC K hx.C ∧ PySem.W.kitAny K (.ref hx.C) us = some b ∧ Q (.bl b) H
theorem call_isX {X : Cx} {hx : HotX} (hh : Held X hx) : CallR X (.builtin "isinstance") (rIsX X.K hx) := by
  intro pins s σ H xs us Q I r h
  obtain ⟨c, u, b, rfl, k, hd, C, e, q⟩ := h
  obtain ⟨u1, u2, rfl, r1, r2⟩ := vals2 r
  cases (show u1 = Value.ref hx.a from r1)
  have e2 := k.eq r2
  subst e2
  obtain ⟨oe, od, J⟩ := hh.inst I hd
  exact PySem.W.kia_one (kitE C) I.kIn J e (fun z => nomatch z) fun tk => ⟨.bl b, H, I.tok tk, rfl, q⟩
theorem call_isXT {X : Cx} {hx : HotX} (hh : Held X hx) : CallR X (.builtin "isinstance") (rIsXT X.K hx) := by
  intro pins s σ H xs us Q I r h
  obtain ⟨tp, cs, ws, b, rfl, hT, k, hd, C, e, q⟩ := h
  obtain ⟨u1, u2, rfl, r1, r2⟩ := vals2 r
  cases (show u1 = Value.ref hx.a from r1)
  cases (show u2 = Value.ref tp from r2)
  obtain ⟨oe, od, J⟩ := hh.inst I hd
  obtain ⟨_, its, rv, ot, h1, h2, n, h3⟩ := (show ObjOk X.prog X.w H s.heap tp (.tup cs) from I.hok tp _ hT)
  have e3 := ClsV.all k rv
  subst e3
  obtain ⟨oc, odd, dt, sl⟩ := ot
  simp only at h2 h3
  subst h2 h3
  exact PySem.W.kia_tup (kitE C) I.kIn J h1 e (fun z => nomatch z) fun tk => ⟨.bl b, H, I.tok tk, rfl, q⟩

/-! ### facts on classes -/
def excCB (K : PySem.W.Frag) (D : Addr) : Bool := eqO (PySem.W.findIn K (.ref D) "__getattribute__") (some (some (.builtin "BaseException.__getattribute__"))) && (eqO (PySem.W.findIn K (.ref D) "__getattr__") (some none) && (decide (PySem.W.subIn K (.ref D) (.type "BaseException") = some true) && (PySem.W.hasDictIn K D && (eqO (PySem.W.findIn K (.ref D) "__class__") (some (some (.builtin "object.__class__"))) &&
  (eqO (PySem.W.specialIn K (.builtin "object.__class__") "__get__") (some (some (.builtin "getset_descriptor.__get__"))) && (decide (PySem.W.takesIn K (.builtin "object.__class__") = some true) && decide (PySem.W.mroIn K D (.type "object") = some true)))))))
theorem excCB_ok {K : PySem.W.Frag} {D : Addr} (h : excCB K D = true) : ExcC K D := by
  obtain ⟨h1, h⟩ := ba h
  obtain ⟨h2, h⟩ := ba h
  obtain ⟨h3, h⟩ := ba h
  obtain ⟨h4, h⟩ := ba h
  obtain ⟨h5, h⟩ := ba h
  obtain ⟨h6, h⟩ := ba h
  obtain ⟨h7, h8⟩ := ba h
  exact ⟨eqO_ok h1, eqO_ok h2, of_decide_eq_true h3, h4, eqO_ok h5, eqO_ok h6, of_decide_eq_true h7, of_decide_eq_true h8⟩
/-- all exceptions of the program are asked rightly -/
structure ExcAllF (K : PySem.W.Frag) : Prop where
  ex : ∀ x D, isExc x = true → PySem.W.nsIn K mainGlobals x = some (some (.ref D)) → ExcC K D
def excAllB (K : PySem.W.Frag) : Bool := excPre K fun D _ => excCB K D
theorem excAllF_of {K : PySem.W.Frag} (h : excAllB K = true) : ExcAllF K := ⟨fun x D hx hm => excCB_ok (excPre_at h hx hm)⟩
/-- the class c: its value, what isinstance says -/
structure IsxF (K : PySem.W.Frag) (mg : Str → Option Value) (c : Str) : Prop where
  ex : ∃ cv u, ((∃ A, mg c = some (.ref A) ∧ cv = .ref A) ∨ (mg c = none ∧ c ≠ "__name__" ∧ ∃ n, cv = .ty n ∧ bootBuiltins c = some (.type n))) ∧ ClsV cv u ∧ ∀ x D, isExc x = true → PySem.W.nsIn K mainGlobals x = some (some (.ref D)) → PySem.W.kitOne K (.ref D) u = some (exmB x c)
def isxB (K : PySem.W.Frag) (c : Str) : Bool := eqO (PySem.W.nsIn K mainGlobals c) (some (some (.ref (ga K c)))) && excPre K fun D x => decide (PySem.W.kitOne K (.ref D) (.ref (ga K c)) = some (exmB x c))
def isxV (K : PySem.W.Frag) : Bool := excPre K fun D x => decide (PySem.W.kitOne K (.ref D) (.type "ValueError") = some true)
theorem isxF_of {K : PySem.W.Frag} {h : Heap} {mg : Str → Option Value} {c : Str} (X : K.In h) (Gn : h.Ns mainGlobals mg) (hc : isxB K c = true) : IsxF K mg c := by
  obtain ⟨h1, h2⟩ := ba hc
  exact ⟨.ref (ga K c), .ref (ga K c), .inl ⟨_, PySem.W.mg_of X Gn (eqO_ok h1), rfl⟩, .own _, fun x D hx hm => of_decide_eq_true (excPre_at h2 hx hm)⟩
theorem isxF_val {K : PySem.W.Frag} {mg : Str → Option Value} (hf : mg "ValueError" = none) (hc : isxV K = true) : IsxF K mg "ValueError" :=
  ⟨.ty "ValueError", .type "ValueError", .inr ⟨hf, by decide, _, rfl, by decide +kernel⟩, .ty _, fun x D hx hm => by
    rw [of_decide_eq_true (excPre_at hc hx hm)]
    unfold exmB
    simp⟩
theorem isx_pe {G : Cc} {X : Cx} {W : WX} {c : Str} {pos : Pos} {cv : V} (k : G.Ok X W) (h : (∃ A, G.mg c = some (.ref A) ∧ cv = .ref A) ∨ (G.mg c = none ∧ c ≠ "__name__" ∧ ∃ n, cv = .ty n ∧ bootBuiltins c = some (.type n))) (hg : G.sc.names.lookup c = some .globalImplicit) (hd : (c == ("__debug__" : Str)) = false) : PE X (.Name c pos) (tC cv) := by
  rcases h with ⟨A, h, rfl⟩ | ⟨h, hn, n, rfl, hb⟩
  · exact pe_glob (k.gl hg) (k.m h) rfl hd
  · exact pe_bltn (k.gl hg) (k.m h) hb rfl hn hd

/-! ### isinstance(e, ..) -/
def theX (hx : HotX) (i : Nat) (k : Exc → Sto → R T) : SE := fun ρ S => match ρ[i]? with
  | some (some (.exn a C d e)) => if a = hx.a ∧ C = hx.C ∧ d = hx.d ∧ isExc e.cls = true then k e S else .bad
  | _ => .bad
def cIsX (hx : HotX) (i : Nat) (c : Str) : SE := theX hx i fun e S => .ok (.val (.bool (exmB e.cls c))) S
def cIsXs (hx : HotX) (i : Nat) (cs : List Str) : SE := theX hx i fun e S => .ok (.val (.bool (cs.any (exmB e.cls)))) S
def cFldX (hx : HotX) (i : Nat) (f : Str) : SE := theX hx i fun e S => match e.fld with
  | some (f', d) => if f' = f then .ok (.val d) S else .bad
  | none => .bad
section
variable {G : Cc} {W : WX} {o o1 : Gh} {c c1 : Cs} {ρ : En} {S : Sto} {σ : L2.St} {H H1 : Hp} {pos p xp cp np ap tp : Pos} {hx : HotX} {i : Nat} {n : Str} {Q : VK}
theorem Cc.Ok.heldX {X : Cx} (k : G.Ok X W) (hh : G.hot = some hx) : Held X hx := k.held hx hh
theorem theX_get {k : Exc → Sto → R T} (rs : RS G.K o c ρ S σ H) (ps : PostE G W o c ρ σ H (theX hx i k ρ S) Q) : σ[i]? = some (some (.ref hx.a)) ∧ ∃ e, PySem.W.nsIn G.K mainGlobals e.cls = some (some (.ref hx.C)) ∧ FldR H hx.d e ∧ isExc e.cls = true ∧ PostE G W o c ρ σ H (k e S) Q := by
  unfold theX at ps
  split at ps
  · rename_i a C d e he
    by_cases q : a = hx.a ∧ C = hx.C ∧ d = hx.d ∧ isExc e.cls = true
    · rw [if_pos q] at ps
      obtain ⟨rfl, rfl, rfl, q4⟩ := q
      obtain ⟨v, e1, rfl, r2, r3⟩ := rs.slot i _ he
      exact ⟨e1, e, r2, r3, q4, ps⟩
    · rw [if_neg q] at ps; exact ps.elim
  · exact ps.elim
theorem ev_isX (i : Nat) {cl : Str} (A : ExcAllF G.K) (F : IsxF G.K G.mg cl) (hh : G.hot = some hx) (hm : G.mg "isinstance" = none) (hN : G.N[i]? = some n := by rfl) (hv : Vis G.sc n := by first | exact Or.inl rfl | exact Or.inr (Or.inl rfl) | exact Or.inr (Or.inr rfl)) (hd : (n == ("__debug__" : Str)) = false := by decide) (hcd : (n == ("__classdict__" : Str)) = false := by decide)
    (hg : G.sc.names.lookup ("isinstance" : Str) = some .globalImplicit := by rfl) (hgT : G.sc.names.lookup cl = some .globalImplicit := by rfl) (hdT : (cl == ("__debug__" : Str)) = false := by decide)
    (he : ∀ env : PySem.Env, starEach [.Name n xp, .Name cl cp] env = (false, eval (.Name n xp) env) :: starEach [.Name cl cp] env := by intro _; rfl) (hpl : ∀ env : PySem.Env, (backTo pos (starEach [.Name cl cp] env)).any (·.1) = false := by intro _; rfl)
    (he2 : ∀ env : PySem.Env, starEach [.Name cl cp] env = (false, eval (.Name cl cp) env) :: starEach [] env := by intro _; rfl) : EV G (.Call (.Name "isinstance" p) [.Name n xp, .Name cl cp] [] pos) (cIsX hx i cl) := by
  obtain ⟨cv, u, h1, h2, h3⟩ := F.ex
  refine ⟨fun W => tCB (rIsX G.K hx) (tCons (tVar i) (tCons (tC cv) tNil)), fun X W k => ?_, fun W σ H ρ S o c Q nt rs ps => ?_⟩
  · have hc := call_isX (k.heldX hh)
    rw [k.K] at hc
    exact pe_callB hc (k.gl hg) (k.m hm) (by first | exact boot_isinstance | exact PyProof.Rows.boot_isinstance | rfl) (pa_cons (pe_var (k.at hN) (k.vis hv) hd hcd) (pa_cons (isx_pe k h1 hgT hdT) pa_nil (he2 _)) (he _)) (by decide) (by decide) (he _) (hpl _)
  · obtain ⟨q1, e, q2, q3, q4, q5⟩ := theX_get rs ps
    exact ⟨_, q1, cv, u, _, rfl, h2, q3.dok, A.ex _ _ q4 q2, h3 _ _ q4 q2, post_val rs q5 (.bl _)⟩
/-- classes of a tuple -/
inductive ClsL (G : Cc) : List Expr → List Str → Prop
  | nil : ClsL G [] []
  | cons {cl : Str} {cp : Pos} {es : List Expr} {cs : List Str} (F : IsxF G.K G.mg cl) (hg : G.sc.names.lookup cl = some .globalImplicit) (hd : (cl == ("__debug__" : Str)) = false) (he : ∀ env : PySem.Env, starEach (.Name cl cp :: es) env = (false, eval (.Name cl cp) env) :: starEach es env) (r : ClsL G es cs) : ClsL G (.Name cl cp :: es) (cl :: cs)
theorem clsL_all {es : List Expr} {cs : List Str} (h : ClsL G es cs) : ∃ (cvs : List V) (us : List Value) (t : TA), cvs.length = cs.length ∧ (∀ σ H Q, t σ H Q ↔ Q cvs H) ∧ (∀ X W, G.Ok X W → PA X es t) ∧ Paired ClsV cvs us ∧
    ∀ x D, isExc x = true → PySem.W.nsIn G.K mainGlobals x = some (some (.ref D)) → PySem.W.kitAny G.K (.ref D) us = some (cs.any (exmB x)) := by
  induction h with
  | nil => exact ⟨[], [], tNil, rfl, fun _ _ _ => Iff.rfl, fun _ _ _ => pa_nil, .nil, fun _ _ _ _ => rfl⟩
  | @cons cl cp es cs F hg hd he r ih =>
    obtain ⟨cvs, us, t, z, q1, q2, q3, q4⟩ := ih
    obtain ⟨cv, u, h1, h2, h3⟩ := F.ex
    refine ⟨cv :: cvs, u :: us, tCons (tC cv) t, by simp [z], fun σ H Q => ?_, fun X W k => pa_cons (isx_pe k h1 hg hd) (q2 X W k) (he _), .cons h2 q3, fun x D hx hm => ?_⟩
    · show t σ H (fun xs H2 => Q (cv :: xs) H2) ↔ _
      rw [q1]
    · refine kitAny_cons (h3 x D hx hm) (fun e => ?_) fun e => ?_
      · rw [q4 x D hx hm, List.any_cons, e, Bool.false_or]
      · rw [List.any_cons, e, Bool.true_or]
theorem ev_isXs (i : Nat) {k0 : Nat} {es : List Expr} {cs : List Str} (A : ExcAllF G.K) (L : ClsL G es cs) (hh : G.hot = some hx) (hm : G.mg "isinstance" = none) (hN : G.N[i]? = some n := by rfl) (hv : Vis G.sc n := by first | exact Or.inl rfl | exact Or.inr (Or.inl rfl) | exact Or.inr (Or.inr rfl)) (hd : (n == ("__debug__" : Str)) = false := by decide) (hcd : (n == ("__classdict__" : Str)) = false := by decide)
    (hl : cs.length ≤ sizeLine := by decide) (hg : G.sc.names.lookup ("isinstance" : Str) = some .globalImplicit := by rfl)
    (he : ∀ env : PySem.Env, starEach [.Name n xp, .Tuple es k0 tp] env = (false, eval (.Name n xp) env) :: starEach [.Tuple es k0 tp] env := by intro _; rfl) (hpl : ∀ env : PySem.Env, (backTo pos (starEach [.Tuple es k0 tp] env)).any (·.1) = false := by intro _; rfl)
    (he2 : ∀ env : PySem.Env, starEach [.Tuple es k0 tp] env = (false, eval (.Tuple es k0 tp) env) :: starEach [] env := by intro _; rfl) : EV G (.Call (.Name "isinstance" p) [.Name n xp, .Tuple es k0 tp] [] pos) (cIsXs hx i cs) := by
  obtain ⟨cvs, us, t, z, q1, q2, q3, q4⟩ := clsL_all L
  refine ⟨fun W => tCB (rIsXT G.K hx) (tCons (tVar i) (tCons (tTup t) tNil)), fun X W k => ?_, fun W σ H ρ S o c Q nt rs ps => ?_⟩
  · have hc := call_isXT (k.heldX hh)
    rw [k.K] at hc
    exact pe_callB hc (k.gl hg) (k.m hm) (by first | exact boot_isinstance | exact PyProof.Rows.boot_isinstance | rfl) (pa_cons (pe_var (k.at hN) (k.vis hv) hd hcd) (pa_cons (pe_tup (q2 X W k)) pa_nil (he2 _)) (he _)) (by decide) (by decide) (he _) (hpl _)
  · obtain ⟨r1, e, r2, r3, r4, r5⟩ := theX_get rs ps
    refine ⟨_, r1, (q1 _ _ _).mpr ⟨by rw [z]; exact hl, fun tp hn => ?_⟩⟩
    refine ⟨tp, cvs, us, _, rfl, upd_same, q3, ?_, A.ex _ _ r4 r2, q4 _ _ r4 r2, ?_⟩
    · have := r3.dok
      cases ed : hx.d with
      | none => trivial
      | some dd =>
        rw [ed] at this
        obtain ⟨fs, h⟩ := this
        exact ⟨fs, by rw [upd_ne (fun z => by subst z; rw [hn] at h; cases h)]; exact h⟩
    · exact r5 _ _ _ _ (Step.laid hn) (rs.laid hn) (.bl _)

/-! ### e.f -/
structure XfF (K : PySem.W.Frag) (f : Str) : Prop where
  ex : ∀ x D, isExc x = true → PySem.W.nsIn K mainGlobals x = some (some (.ref D)) → XfC K D ∧ PySem.W.findIn K (.ref D) f = some none
def xfAll (K : PySem.W.Frag) (f : Str) : Bool := excPre K fun D _ => xfB K D && eqO (PySem.W.findIn K (.ref D) f) (some none)
theorem xfF_of {K : PySem.W.Frag} {f : Str} (h : xfAll K f = true) : XfF K f := ⟨fun x D hx hm => by
  obtain ⟨h1, h2⟩ := ba (excPre_at h hx hm)
  exact ⟨xfB_ok h1, eqO_ok h2⟩⟩
/-- the reading of a field of what is held -/
def tXv (K : PySem.W.Frag) (hx : HotX) (f : Str) (te : TE) : TE := fun σ H Q => te σ H fun x H1 => x = .ref hx.a ∧ XfC K hx.C ∧ PySem.W.findIn K (.ref hx.C) f = some none ∧ ∃ (dd : Addr) (fs : List (Str × V)) (v : V), hx.d = some dd ∧ H1 dd = some (.xd fs) ∧ fs.lookup f = some v ∧ Q v H1
theorem pe_xv {X : Cx} {e : Expr} {te : TE} {f : Str} (hh : Held X hx) (he : PE X e te) (hb : attributeBase e f X.env (eval e X.env) = eval e X.env := by rfl) : PE X (.Attribute e f pos) (tXv X.K hx f te) := by
  refine ⟨fun pins s σ H Q I h => ?_⟩
  refine attr_of hb (thn (he.run pins s σ H _ I h) fun u s1 ⟨x, H1, I1, rx, ex, T, hno, dd, fs, v, ed, ea, l, q⟩ => ?_)
  subst ex
  obtain rfl : u = Value.ref hx.a := rx
  obtain ⟨oe, _, hmem, hz, vs, hdat⟩ := hh
  have hget := (I1.pin (hx.a, oe) (List.mem_append_left _ hmem)).1
  obtain ⟨mA, hns, hr⟩ := (show ObjOk X.prog X.w H1 s1.heap dd (.xd fs) from I1.hok dd _ ea)
  obtain ⟨od, ho, hl⟩ := lookIn_ns hns
  obtain ⟨w, hu, rw'⟩ := RelO.some_of (v := v) (o := mA f) (by rw [← l]; exact hr f)
  have J : PySem.W.InstAt s1.heap hx.a oe hx.C (some od) := ⟨hget, hz.1, by unfold PySem.W.notCls; rw [hdat] <;> rfl, by rw [hz.2, ed]; exact ho⟩
  have fo := PySem.W.findObj_own (od := od) T.hdC hno rfl (by rw [hl, hu])
  exact HandSPX.exc_get I1.kIn J T.ga T.gg T.exC fo (handed_of rw') ⟨v, H1, I1.tok _, rw', q⟩
theorem ev_fldX (i : Nat) {f : Str} (F : XfF G.K f) (hh : G.hot = some hx) (hN : G.N[i]? = some n := by rfl) (hv : Vis G.sc n := by first | exact Or.inl rfl | exact Or.inr (Or.inl rfl) | exact Or.inr (Or.inr rfl)) (hd : (n == ("__debug__" : Str)) = false := by decide) (hcd : (n == ("__classdict__" : Str)) = false := by decide)
    (hb : ∀ env : PySem.Env, attributeBase (.Name n xp) f env (eval (.Name n xp) env) = eval (.Name n xp) env := by intro _; rfl) : EV G (.Attribute (.Name n xp) f pos) (cFldX hx i f) := by
  refine ⟨fun W => tXv G.K hx f (tVar i), fun X W k => ?_, fun W σ H ρ S o c Q nt rs ps => ?_⟩
  · have := pe_xv (pos := pos) (f := f) (k.heldX hh) (pe_var (pos := xp) (k.at hN) (k.vis hv) hd hcd) (hb _)
    rw [k.K] at this
    exact this
  · obtain ⟨r1, e, r2, r3, r4, r5⟩ := theX_get rs ps
    refine ⟨_, r1, rfl, (F.ex _ _ r4 r2).1, (F.ex _ _ r4 r2).2, ?_⟩
    unfold FldR at r3
    cases ef : e.fld with
    | none => rw [ef] at r5; exact r5.elim
    | some fd =>
      obtain ⟨f', dv⟩ := fd
      rw [ef] at r5 r3
      simp only at r5 r3
      by_cases hf : f' = f
      · subst hf
        rw [if_pos rfl] at r5
        obtain ⟨dd, v, hd', hv', hH⟩ := r3
        refine ⟨dd, _, v, hd', hH, by simp [List.lookup], post_val rs r5 ?_⟩
        cases dv with
        | none => cases hv'; exact .non
        | int j => cases hv'; exact .int j
        | _ => cases hv'
      · rw [if_neg hf] at r5; exact r5.elim
end
end BV
/-! The by-value calculus: try .. except X as n; defs called in a suite. -/
namespace BV
open PySem PySem.Spec PyProof.Rows L2
open He (ba eqO eqO_ok ga)

/-! ### except X as n -/
def unset (i : Nat) : Fl → Fl
  | .nx ρ S => .nx (ρ.set i none) S
  | .bk ρ S => .bk (ρ.set i none) S
  | .ct ρ S => .ct (ρ.set i none) S
  | .ex _ _ _ => .bad
  | .rt t S => .rt t S
  | .bad => .bad
noncomputable def sTryAs (g : SS) (c : Str) (i : Nat) (su : HotX → SS) : SS := fun ρ S => match g ρ S with
  | .ex e ρ1 S1 => if isExc e.cls = true then (if exmB e.cls c = true then uni .bad (fun hx => unset i (su hx (ρ1.set i (some (.exn hx.a hx.C hx.d e))) S1)) else .ex e ρ1 S1) else .bad
  | r => r
section
variable {G : Cc} {W : WX} {o o1 : Gh} {c c1 : Cs} {ρ : En} {S : Sto} {σ : L2.St} {H H1 : Hp} {pos p xp cp np ap tp : Pos} {hx : HotX} {i : Nat} {n : Str} {Q : VK}
theorem RS.gone {K : PySem.W.Frag} (rs : RS K o c ρ S σ H) : RS K o c (ρ.set i none) S (σ.set i none) H := ⟨by rw [List.length_set, List.length_set]; exact rs.len, fun j t e => by
  by_cases hj : i = j
  · subst hj
    rw [List.getElem?_set] at e
    simp only [if_true] at e
    split at e <;> cases e
  · rw [List.getElem?_set_ne hj] at e ⊢
    exact rs.slot j t e, rs.cs⟩
theorem RS.setX {K : PySem.W.Frag} {v : V} {a C : Addr} {d : Option Addr} {e : Exc} (rs : RS K o c ρ S σ H) (r : RepT K o c H (.slot i) v (.exn a C d e)) : RS K o c (ρ.set i (some (.exn a C d e))) S (σ.set i (some v)) H := ⟨by rw [List.length_set, List.length_set]; exact rs.len, fun j t e' => by
  by_cases hj : i = j
  · subst hj
    by_cases hl : i < ρ.length
    · rw [List.getElem?_set_self hl] at e'
      cases e'
      exact ⟨v, List.getElem?_set_self (by rw [← rs.len]; exact hl), r⟩
    · rw [List.getElem?_eq_none (by rw [List.length_set]; omega)] at e'; cases e'
  · rw [List.getElem?_set_ne hj] at e' ⊢
    exact rs.slot j t e', rs.cs⟩
theorem post_unset {r : Fl} {D : Ends} {hx : HotX} (p : PostS G W o c H (unset i r) D) : PostS (G.suite hx) (fun _ _ _ _ => False) o c H r { nx := fun σ' H' => D.nx (σ'.set i none) H', rt := D.rt, bk := fun σ' H' => D.bk (σ'.set i none) H', ct := fun σ' H' => D.ct (σ'.set i none) H' } := by
  cases r with
  | nx ρ2 S2 => exact fun σ2 o2 c2 H2 s nt rs => p _ o2 c2 H2 s nt rs.gone
  | bk ρ2 S2 => exact fun σ2 o2 c2 H2 s nt rs => p _ o2 c2 H2 s nt rs.gone
  | ct ρ2 S2 => exact fun σ2 o2 c2 H2 s nt rs => p _ o2 c2 H2 s nt rs.gone
  | rt t S2 => exact p
  | ex _ _ _ => exact p.elim
  | bad => exact p.elim
theorem sv_tryAs (i : Nat) {cl : Str} {pos' : Pos} {body suite : List Stmt} {b₀ : Stmt} {g : SS} {su : HotX → SS} (hb : SVs G.tr body g) (hE : ExmF G.K G.mg cl) (hs : ∀ hx : HotX, SVs (G.suite hx) (b₀ :: suite) (su hx)) (hN : G.N[i]? = some n := by rfl) (hln : G.sc.names.lookup n = some .local := by rfl)
    (hg : G.sc.names.lookup cl = some .globalImplicit := by rfl) (hdb : (cl == ("__debug__" : Str)) = false := by decide) (nd : G.N.Nodup := by (try dsimp only [Cc.blk]); decide +kernel) (hcm : G.hot = none := by rfl) (htop : G.top = true := by rfl) : SV G (.Try body [.ExceptHandler (some (.Name cl np)) (some n) (b₀ :: suite) pos'] [] [] pos) (sTryAs g cl i su) := by
  obtain ⟨tb, pb, qb⟩ := hb
  obtain ⟨Cv, hcm', hE'⟩ := hE.ex
  let ts : Addr → Value → Option Addr → TS := fun a cls d => match cls with
    | .ref C => (hs ⟨a, C, d⟩).choose fun _ _ _ _ => False
    | _ => fun _ _ _ => False
  refine ⟨fun W D σ H => tb (wAs G.K (.ref Cv) i ts W D) D σ H, fun X W k => ?_, fun W σ H ρ S o c D nt rs ps => ?_⟩
  · obtain ⟨t1, t2⟩ := k.top htop
    have su' : ∀ (a : Addr) (oe : Obj) (cls : Value) (d : Option Addr) (pn : List (Addr × Obj)), Zc cls d oe → (∃ vs, oe.data = .fields vs) → PSs (X.suite a ((a, oe) :: pn)) (b₀ :: suite) (ts a cls d) := fun a oe cls d pn hz hf => by
      cases cls with
      | ref C => exact (hs ⟨a, C, d⟩).choose_spec.1 _ _ (okSuite k hz hf)
      | _ => exact ⟨fun _ _ _ _ _ _ z => z.elim⟩
    have hK := k.K
    cases hcn : G.cn with
    | true =>
      have tk : L2N.Takes X W := k.tk.n
      have := L2N.ps_try_as (pos := pos) (pos' := pos') (np := np) (ts := ts) (tb := tb) t1 t2 (k.nd nd) (k.at hN) (by show X.env.scope.names.lookup n = _; rw [k.sc]; exact hln) ⟨k.gl hg, hdb, .inl (k.m hcm')⟩ tk (fun W' pn xe tk po => pb _ _ (okTr k hcm (by rw [hcn]; exact tk) po))
        (fun a oe cls d pn hz hf => su' a oe cls d pn hz.zc hf)
      rw [hK] at this
      exact this
    | false =>
      have tk : L2.Takes X W := by
        have := k.tk
        rw [hcn] at this
        exact this
      have := L2.ps_try_as (pos := pos) (pos' := pos') (np := np) (ts := ts) (tb := tb) t1 t2 (k.nd nd) (k.at hN) (by show X.env.scope.names.lookup n = _; rw [k.sc]; exact hln) ⟨k.gl hg, hdb, .inl (k.m hcm')⟩ tk (fun W' pn xe tk po => pb _ _ (okTr k hcm (by rw [hcn]; exact tk) po)) su'
      rw [hK] at this
      exact this
  · refine qb _ σ H ρ S o c D nt rs ?_
    unfold sTryAs at ps
    cases eg : g ρ S with
    | ex e ρ1 S1 =>
      rw [eg] at ps
      intro cls d σ' o' c' H' s' nt' r' x
      simp only at ps
      by_cases hx : isExc e.cls = true
      · rw [if_pos hx] at ps
        obtain ⟨C, rfl, hm, rest⟩ := id x
        obtain ⟨q1, q2⟩ := hE' _ _ hx hm
        refine ⟨exmB e.cls cl, q2, fun hb a na => ?_, fun hb => ?_⟩
        · rw [if_pos hb] at ps
          rcases uni_or Fl.bad (fun hx => unset i (su hx (ρ1.set i (some (.exn hx.a hx.C hx.d e))) S1)) with h | h
          · rw [← h ⟨a, C, d⟩] at ps
            have hF : FldR H' d e := by unfold FldR; exact rest
            refine (hs ⟨a, C, d⟩).choose_spec.2 _ (σ'.set i (some (.ref a))) H' (ρ1.set i (some (.exn a C d e))) S1 o' c' _ nt' (r'.setX ⟨rfl, q1, hF⟩) (post_unset (ps.step s'))
          · rw [h] at ps; exact ps.elim
        · rw [if_neg (by rw [hb]; exact Bool.false_ne_true)] at ps
          exact ps.step s' _ _ σ' o' c' H' Step.refl nt' r' x
      · rw [if_neg hx] at ps
        exact ps.elim
    | nx _ _ => rw [eg] at ps; exact ps
    | bk _ _ => rw [eg] at ps; exact ps
    | ct _ _ => rw [eg] at ps; exact ps
    | rt _ _ => rw [eg] at ps; exact ps
    | bad => rw [eg] at ps; exact ps
end

/-! ### defs called in a suite: what they promise may hang on what is handled -/
structure FnX (P : Program) (w : World) (K : PySem.W.Frag) (mg : Str → Option Value) (base : Heap) (cn : Bool) (k : Nat) (f : Addr) (fd : FuncData) (ps : List Str) (sp : Addr × Obj → Sp) : Prop where
  len : ∀ p vs H Q E, sp p vs H Q E → vs.length = ps.length
  run : ∀ (A : Around) (out : List PySem.Env) (s : Shared) (H : Hp) (as : Args) (us : List Value) (vs : List V) (Q : VK) (E : XK) (p : Addr × Obj), L2H.RoomH k A → Hot0 A p → L2H.PinOk out H s p → Env0 P w K mg base A out s H → BindsTo s fd as (ps.zip us) → Vals vs us → sp p vs H Q E →
    codeAny (model P w) A (.call (.ref f) as) (L2.CR (CXg cn P w) out P w H s Q E) s
def spX (K : PySem.W.Frag) (mg : Str → Option Value) (n : Nat) (f : HotX → Fn) : Addr × Obj → Sp := fun p vs H Q E => ∃ hx : HotX, p.1 = hx.a ∧ Zc (.ref hx.C) hx.d p.2 ∧ spD K mg n (f hx) vs H Q E
structure FnDX (P : Program) (w : World) (K : PySem.W.Frag) (mg : Str → Option Value) (base : Heap) (cn : Bool) (k : Nat) (x : Str) (n : Nat) (f : HotX → Fn) : Prop where
  ex : ∃ (a : Addr) (fd : FuncData) (ps : List Str), mg x = some (.ref a) ∧ PySem.W.keepIn K (.ref a) = true ∧ Binds K fd ps [] ∧ ps.length = n ∧ FnX P w K mg base cn k a fd ps (spX K mg n f)
section
variable {P : Program} {w : World} {K : PySem.W.Frag} {mg : Str → Option Value} {base : Heap} {cn : Bool} {k : Nat} {x qual : Str} {st : Stmt} {f : Addr} {fd : FuncData} {N ps : List Str} {sc : Scope}
theorem fnX_of {params : Arguments} {body : List Stmt} {dV kV doc pm cdv ct oc : Value} {an od : Option Addr} {osl : Array (Option Value)} {sp : Addr × Obj → Sp} {nm : Str}
    (lk : K.lookup f = some ⟨oc, od, .func (PySem.W.fnOf nm qual params body sc dV kV doc pm an cdv ct), osl⟩) (hcd : PySem.W.codeIn K cdv qual = true) (Sc : FnScope N ps sc) (len : ∀ p vs H Q E, sp p vs H Q E → vs.length = ps.length)
    (hbody : ∀ (A : Around) (out : List PySem.Env) (s : Shared) (H : Hp) (vs : List V) (Q : VK) (E : XK) (p : Addr × Obj), Hot0 A p → L2H.RoomH k (A.deeper (envOfC qual sc s.heap.objs.size f cdv)) → sp p vs H Q E →
      ∃ t, PSs (L2H.cxH (CXg cn P w) P w K mg base N qual sc f cdv A out s H E p) body t ∧ t { nx := fun _ H' => Q .non H', rt := Q } (L2.start N vs) H) :
    FnX P w K mg base cn (k + 1) f (PySem.W.fnOf nm qual params body sc dV kV doc pm an cdv ct) ps sp := by
  refine ⟨len, ?_⟩
  intro A out s H as us vs Q E p room hot pin e0 hb r h
  have vl := len _ _ _ _ _ h
  have hK : K.In s.heap := (e0.mod.kin).keeps (fun b o e => And.left (e0.bs b o e))
  have hL : s.heap.NoLimit := (e0.mod.nolimit).keeps (fun b o e => And.left (e0.bs b o e))
  have kinds : ∀ z ∈ ps.zip us, sc.names.lookup z.1 = some .local ∨ (sc.names.lookup z.1 = some .cell ∧ ((cellsFrom (s.heap.objs.size + 1) sc.names []).lookup z.1).isSome = true) := by
    rintro ⟨y, v⟩ hy
    exact (Sc.par y (List.of_mem_zip hy).1).imp id fun q => ⟨q, PySem.W.cellsFrom_some _ _ _ (.inl q)⟩
  refine codeAny_call_function room.depth (hK _ _ lk) rfl Sc.co Sc.gen rfl (PySem.W.codeRec_of hK hcd) (hb _ _ _ _ (wpAny_newFunctionEnv_cells Sc.kind kinds ?_))
  rintro env rfl s1 y
  refine ⟨hL.keeps y.toInCall.keep, codeAny_func ?_⟩
  obtain ⟨t, pt, qt⟩ := hbody A out s H vs Q E p hot (room.deeper _) h
  refine wpAny_mono (pt.run [] s1 (L2.start N vs) H _ (L2H.inv_startH Sc pin e0 vl r y) qt) (fun fl s' z => ?_) (fun _ _ z => z)
  cases fl with
  | ret u =>
    obtain ⟨v, σ', H', J, rv, q⟩ := z
    exact ⟨v, H', J.os, J.bare, J.base, J.hok, rv, q⟩
  | next =>
    obtain ⟨σ', H', J, q⟩ := z
    exact ⟨.non, H', J.os, J.bare, J.base, J.hok, rfl, q⟩
  | brk => exact z.choose_spec.choose_spec.2.elim
  | cont => exact z.choose_spec.choose_spec.2.elim
/-- what a body does, in either context -/
theorem body_of {G : Cc} {g : SS} {X : Cx} {vs : List V} {H : Hp} {Q : VK} {E : XK} (hG : G.N = N) (h : SVs G (defBody st) g) (ok : G.Ok X (fun cls d _ H => E cls d H)) (hsp : spD G.K G.mg ps.length (fnF N g) vs H Q E) (hlen : ps.length ≤ N.length) :
    ∃ t, PSs X (defBody st) t ∧ t { nx := fun _ H' => Q .non H', rt := Q } (L2.start N vs) H := by
  obtain ⟨t, p, q⟩ := h
  obtain ⟨hl, ts, S, o, c, rts, cl, cs, post⟩ := hsp
  refine ⟨t _, p _ _ ok, q _ (L2.start N vs) H (BV.start N ts) S o c _ ?_ ⟨?_, ?_, cs⟩ ?_⟩
  · intro a e
    rcases cl a _ e with h | h
    · cases h
    · exact h
  · unfold BV.start BV.start0 L2.start
    rw [List.length_append, List.length_append, List.length_map, List.length_map, List.length_replicate, List.length_replicate, rts.1]
  · intro i t' e
    unfold BV.start BV.start0 at e
    by_cases hi : i < ts.length
    · rw [List.getElem?_append_left (by rw [List.length_map]; exact hi), List.getElem?_map] at e
      have hv : i < vs.length := by rw [rts.1]; exact hi
      have e1 : vs[i]? = some vs[i] := List.getElem?_eq_getElem hv
      have e2 : ts[i]? = some t' := by
        cases e3 : ts[i]? with
        | none => rw [e3] at e; cases e
        | some u => rw [e3] at e; simp only [Option.map_some, Option.some.injEq] at e; rw [e]
      obtain ⟨q1, q2⟩ := rts.2 i _ t' e1 e2
      refine ⟨vs[i], ?_, q1.anyW q2⟩
      unfold L2.start
      rw [List.getElem?_append_left (by rw [List.length_map]; exact hv), List.getElem?_map, e1]
      rfl
    · rw [List.getElem?_append_right (by rw [List.length_map]; omega)] at e
      rw [List.getElem?_replicate] at e
      split at e <;> cases e
  · unfold fnF fnL at post
    cases e : g (BV.start N ts) S with
    | nx ρ' S' =>
      rw [e] at post
      intro σ' o' c' H' s' nt' rs'
      exact post .non (dropO isSlot o') c' H' (vol_clean cl s') (rs'.cs.drop fun _ => rfl) noslot (Rep.non)
    | rt t0 S' =>
      rw [e] at post
      intro v o' c' H' s' cs' r'
      exact post v (dropO isSlot o') c' H' (vol_clean cl s') (cs'.drop fun _ => rfl) noslot (r'.drop cs'.trk rfl)
    | ex e' ρ' S' =>
      rw [e] at post
      intro cls d σ' o' c' H' s' nt' rs' x
      exact post cls d (dropO isSlot o') c' H' (vol_clean cl s') (rs'.cs.drop fun _ => rfl) noslot (fun a h => nt' a (dropO_of h).1) x
    | bk ρ' S' => rw [e] at post; exact post.elim
    | ct ρ' S' => rw [e] at post; exact post.elim
    | bad => rw [e] at post; exact post.elim
theorem tk_ofH {N : List Str} {A : Around} {out : List PySem.Env} {s : Shared} {H : Hp} {E : XK} {cdv : Value} {p : Addr × Obj} : Tk cn (L2H.cxH (CXg cn P w) P w K mg base N qual sc f cdv A out s H E p) (fun cls d _ H => E cls d H) := by
  cases cn with
  | true => exact L2N.takes_of rfl rfl rfl rfl
  | false => exact L2.takes_of rfl rfl rfl rfl
theorem fn_okX {g : HotX → SS} {n : Nat} (F : FunD K x qual (defArgs st) (defBody st) (defScope st) [] [] f fd) (hsc : defScope st = sc) (Sc : FnScope N ps sc) (hm : mg x = some (.ref f))
    (hb : ∀ (kV doc pm : Value) (an : Option Addr) (cdv ct : Value) (us : List Value), us.length = ps.length → bindArgs (PySem.W.fnOf x qual (defArgs st) (defBody st) (defScope st) .none kV doc pm an cdv ct) ⟨us, []⟩ = pure (ps.zip us)) (hlen : ps.length ≤ N.length) (hn : ps.length = n)
    (h : ∀ hx, SVs ⟨P, w, K, mg, base, N, sc, fun _ => true, k, false, some hx, cn, false, none⟩ (defBody st) (g hx)) : FnDX P w K mg base cn (k + 1) x n (fun hx => fnF N (g hx)) := by
  subst hsc
  subst hn
  have F' := BV.fun_of F
  refine ⟨f, fd, ps, hm, F'.kp, F.bindsN hb, rfl, ?_⟩
  obtain ⟨oc, od, kV, doc, pm, an, cdv, ct, osl, rfl, lk, hcd⟩ := F'.ex
  refine fnX_of lk hcd Sc (fun p vs H Q E h => by obtain ⟨hx, _, _, h⟩ := h; exact h.1) fun A out s H vs Q E p hot hr hsp => ?_
  obtain ⟨hx, e1, hz, hsp⟩ := hsp
  obtain ⟨pa, po⟩ := p
  simp only at e1
  subst e1
  have ok : (⟨P, w, K, mg, base, N, defScope st, fun _ => true, k, false, some hx, cn, false, none⟩ : Cc).Ok (L2H.cxH (CXg cn P w) P w K mg base N qual (defScope st) f cdv A out s H E (hx.a, po)) (fun cls d _ H => E cls d H) :=
    ⟨rfl, rfl, rfl, rfl, rfl, rfl, rfl, rfl, fun z => (nomatch z), hr, tk_ofH, PassesOwn.leaving, fun z => (nomatch z), fun z => (nomatch z), fun h e => (by
      cases e
      obtain ⟨h1, vs, h2⟩ := hot
      exact ⟨po, ⟨h1, vs, h2⟩, List.mem_cons_self, hz, vs, h2⟩), fun z => (nomatch z), fun _ _ z => (nomatch z)⟩
  exact body_of rfl (h hx) ok hsp hlen
end
section
variable {X : Cx} {f : Addr} {fd : FuncData} {ps : List Str} {x : Str} {q pos : Pos} {e : Expr} {es : List Expr} {t : TA} {k n : Nat} {g : HotX → Fn} {E : L2.St → XK} {hx : HotX}
theorem pe_callX {cn : Bool} (F : FnX X.prog X.w X.K X.mg X.base cn k f fd ps (spX X.K X.mg n g)) (hr : L2H.RoomH k X.A) (hh : Held X hx) (hg : Gl X x) (hm : X.mg x = some (.ref f)) (hk : PySem.W.keepIn X.K (.ref f) = true) (hb : Binds X.K fd ps []) (px : ∀ σ, PassesAt (CXg cn X.prog X.w) X σ (E σ))
    (ha : PA X (e :: es) t) (hdb : (x == ("__debug__" : Str)) = false) (he : starEach (e :: es) X.env = (false, eval e X.env) :: starEach es X.env) (hpl : (backTo pos (starEach es X.env)).any (·.1) = false) : PE X (.Call (.Name x q) (e :: es) [] pos) (tCallS (spD X.K X.mg n (g hx)) E t) := by
  refine ⟨fun pins s σ H Q I h => wpAny_Call_Name_kw (ld_glob I hg hm ?_ hdb)⟩
  refine PySem.W.callWith_K (h₀ := X.base) I.ok.mod.kin hk (thn (ha.run pos pins s σ H _ I h) ?_) he hpl
  rintro us s1 ⟨vs, H1, J, r, z⟩
  refine ⟨J.kIn, ?_⟩
  obtain ⟨oe, hot, hmem, hz, hd⟩ := hh
  have sp' : spX X.K X.mg n g (hx.a, oe) vs H1 Q (E σ) := ⟨hx, rfl, hz, z⟩
  have hl : us.length = ps.length := r.length.symm.trans (F.len _ _ _ _ _ sp')
  have b := hb s1 us J.kIn (by rw [List.append_nil]; exact hl)
  rw [List.append_nil] at b
  obtain ⟨g1, g2, g3, g4, g5⟩ := J.pin (hx.a, oe) (List.mem_append_left _ hmem)
  have pin : L2H.PinOk X.stack H1 s1 (hx.a, oe) := ⟨g1, g2, fun z => (List.mem_cons.mp (J.stkSub _ z)).elim g3 g4, g5⟩
  refine wpAny_call (codeAny_mono (F.run X.A X.stack s1 H1 ⟨us, []⟩ us vs Q (E σ) (hx.a, oe) hr hot pin J.env0 b r sp') ?_)
  intro r s' y
  match r with
  | .error e => exact px σ pins H1 s1 e s' J y
  | .ok (.ret u) => exact J.after y
  | .ok .next => exact y.elim
  | .ok .brk => exact y.elim
  | .ok .cont => exact y.elim
end
section
variable {G : Cc} {pos : Pos} {e : Expr} {es : List Expr} {hx : HotX}
theorem ev_callX {x : Str} {p : Pos} {j n : Nat} {f : HotX → Fn} {fs : SA} (F : FnDX G.P G.w G.K G.mg G.base G.cn j x n f) (ha : AVn G (e :: es) fs n) (hh : G.hot = some hx) (hj : j ≤ G.k := by (try dsimp only [Cc.suite]); decide) (hg : G.sc.names.lookup x = some .globalImplicit := by rfl) (hdb : (x == ("__debug__" : Str)) = false := by decide)
    (he : ∀ env : PySem.Env, starEach (e :: es) env = (false, eval e env) :: starEach es env := by intro _; rfl) (hpl : ∀ env : PySem.Env, (backTo pos (starEach es env)).any (·.1) = false := by intro _; rfl) : EV G (.Call (.Name x p) (e :: es) [] pos) (cCall (f hx) fs) := by
  obtain ⟨⟨t, p1, q1⟩, hl⟩ := ha
  obtain ⟨a, fd, ps, hm, hk, hb, hn, hF⟩ := F.ex
  refine ⟨fun W => tCallS (spD G.K G.mg n (f hx)) (WE W) (t W), fun X W k => ?_, fun W => er_def (q1 W) hl⟩
  have hF' : FnX X.prog X.w X.K X.mg X.base G.cn j a fd ps (spX X.K X.mg n f) := by rw [k.P, k.w, k.K, k.mg, k.base]; exact hF
  have := pe_callX (q := p) (hx := hx) hF' (k.room.mono hj) (k.heldX hh) (k.gl hg) (k.m hm) (by rw [k.K]; exact hk) (by rw [k.K]; exact hb) (fun σ => tk_pass k.tk σ) (p1 X W k) hdb (he _) (hpl _)
  rw [k.K, k.mg] at this
  exact this
theorem ev_callX0 {x : Str} {p : Pos} {j n : Nat} {f : Fn} {fs : SA} (F : FnDX G.P G.w G.K G.mg G.base G.cn j x n (fun _ => f)) (ha : AVn G (e :: es) fs n) (hh : G.hot = some hx) (hj : j ≤ G.k := by (try dsimp only [Cc.suite]); decide) (hg : G.sc.names.lookup x = some .globalImplicit := by rfl) (hdb : (x == ("__debug__" : Str)) = false := by decide)
    (he : ∀ env : PySem.Env, starEach (e :: es) env = (false, eval e env) :: starEach es env := by intro _; rfl) (hpl : ∀ env : PySem.Env, (backTo pos (starEach es env)).any (·.1) = false := by intro _; rfl) : EV G (.Call (.Name x p) (e :: es) [] pos) (cCall f fs) :=
  ev_callX (f := fun _ => f) (hx := hx) F ha hh hj hg hdb he hpl
end

/-! ### x is True -/
section
variable {G : Cc} {pos : Pos}
def gIsB : D → D → Option T
  | .bool c, .bool d => some (.val (.bool (c == d)))
  | _, _ => none
theorem op_isB {X : Cx} : OpR X (compareOp .Is) (fun x y H Q => ∃ c d, x = .bl c ∧ y = .bl d ∧ Q (.bl (c == d)) H) := by
  intro pins s σ H x y v u Q I rx ry h
  obtain ⟨c, d, rfl, rfl, q⟩ := h
  cases rx
  cases ry
  exact is_bool (fin_bl I q rfl)
theorem cr_isB : BV.CR G .Is gIsB := ⟨_, fun X W k => op_isB, by
  intro G' W o c ρ S σ H x y a b t Q hK rs r1 r2 e p
  unfold gIsB at e
  split at e
  · cases e
    exact ⟨_, _, r1.blV, r2.blV, post_val (hK ▸ rs) p (.bl _)⟩
  · cases e⟩
end
/-! ### list.index -/
def firstAt (d : D) : List D → Option Nat
  | [] => none
  | e :: r => if PyData.eqv e d = true then some 0 else (firstAt d r).map (· + 1)
theorem firstAt_spec {d : D} : ∀ {ds : List D} {j : Nat}, firstAt d ds = some j → ∃ z, ds[j]? = some z ∧ PyData.eqv z d = true ∧ ∀ (m : Nat) (z' : D), m < j → ds[m]? = some z' → PyData.eqv z' d = false := by
  intro ds
  induction ds with
  | nil => intro j h; cases h
  | cons e r ih =>
    intro j h
    unfold firstAt at h
    by_cases q : PyData.eqv e d = true
    · rw [if_pos q] at h
      cases h
      exact ⟨e, rfl, q, fun m z' hm => absurd hm (Nat.not_lt_zero m)⟩
    · rw [if_neg q] at h
      cases e1 : firstAt d r with
      | none => rw [e1] at h; cases h
      | some j' =>
        rw [e1] at h
        cases h
        obtain ⟨z, h1, h2, h3⟩ := ih e1
        refine ⟨z, by simpa using h1, h2, fun m z' hm hz => ?_⟩
        cases m with
        | zero =>
          simp only [List.getElem?_cons_zero, Option.some.injEq] at hz
          subst hz
          exact Bool.eq_false_iff.mpr q
        | succ m => exact h3 m z' (by have : m + 1 < j' + 1 := hm; omega) (by simpa using hz)
def mIndexL : D → List D → Option T
  | .list ds, [d] => if eqOk (.list ds) && eqOk d then (firstAt d ds).map fun j => .val (.int (j : Nat)) else none
  | _, _ => none
section
variable {G : Cc}
theorem md_indexL : MD G "list" "index" mIndexL := ⟨"list.index", _, PySem.F.plainAttrs_list, PySem.F.slot_list_index, PySem.F.type_list_index, fun X W k => by have := mt_indexD (X := X) (by have := k.room.un; omega); rw [k.K] at this; exact this, by
  intro G' W o c ρ S σ H x d vs ds t Q hK rs r ra e p
  rw [← hK] at r ra ⊢
  unfold mIndexL at e
  split at e
  · split at e
    · rename_i hh
      cases e1 : firstAt _ _ with
      | none => rw [e1] at e; cases e
      | some j =>
        rw [e1] at e
        cases e
        rw [Bool.and_eq_true] at hh
        have n1 := hh.1
        have n2 := hh.2
        unfold eqOk at n1 n2
        rw [Bool.and_eq_true] at n1 n2
        obtain ⟨v, rfl, rv⟩ := ra.one
        obtain ⟨a, ws, e1', h1, _⟩ := r.lstV
        subst e1'
        obtain ⟨z, z1, z2, z3⟩ := firstAt_spec e1
        exact ⟨a, v, _, _, j, z, rfl, rfl, r.dp n1.1, rv.dp n2.1, eqOk_shaped r hh.1, eqOk_shaped rv hh.2, z1, z2, z3, post_val (hK ▸ rs) p (.int _)⟩
    · cases e
  · cases e⟩
end
end BV
/-! The by-value calculus: a row of an own list of own lists is changed by a method: x[a].m(..). -/
namespace BV
open PySem L2
def sLM2 (i : Nat) (fa : SE) (m : List BV.D → List BV.D → Option (List BV.D × BV.D)) (fs : SA) : SS := fun ρ S => match ρ[i]? with
  | some (some (.own2 xss)) => sD fa (fun da ρ S => match da with
    | .int j => (match ixN xss.length j with
      | some k => (match xss[k]? with
        | some xs => sA fs (fun ts ρ S => match allD ts with
          | some ds => (match m xs ds with | some (xs', _) => .nx (ρ.set i (some (.own2 (xss.set k xs')))) S | none => .bad)
          | none => .bad) ρ S
        | none => .bad)
      | none => .bad)
    | _ => .bad) ρ S
  | _ => .bad
section
variable {G : Cc} {W : WX} {o o1 : Gh} {c c1 : Cs} {ρ : En} {σ : L2.St} {H H1 : Hp} {S S1 : Sto} {pos : Pos} {e : Expr} {es : List Expr} {fs : SA} {m : List BV.D → List BV.D → Option (List BV.D × BV.D)}
theorem sv_lm2 (i : Nat) {a : Expr} {f2 : SE} {x nm : Str} {xp up ap cp : Pos} (L : LM G nm m) (h2 : UV G a f2) (h : AV G (e :: es) fs) (hs2 : PlainIx a := by exact fun _ _ => rfl) (hN : G.N[i]? = some x := by rfl) (hv : Vis G.sc x := by first | exact Or.inl rfl | exact Or.inr (Or.inl rfl) | exact Or.inr (Or.inr rfl)) (hd : (x == ("__debug__" : Str)) = false := by decide) (hcd : (x == ("__classdict__" : Str)) = false := by decide)
    (hbase : ∀ env : PySem.Env, attributeBase (.Subscript (.Name x xp) a up) nm env (eval (.Subscript (.Name x xp) a up) env) = eval (.Subscript (.Name x xp) a up) env := by intro _; rfl)
    (hfew : ∀ env : PySem.Env, ((backTo cp (starEach (e :: es) env)).all (fun x => !x.1) && (backToKw cp (keywordEach [] env)).all (fun x => x.1.isSome) && decide ((e :: es).length + ([] : List Keyword).length + (if ([] : List Keyword).isEmpty then 0 else 1) < 30)) = true := by intro _; rfl)
    (hline : (ap.endLine == cp.line) = true := by rfl) (hs : ∀ env : PySem.Env, starEach (e :: es) env = (false, eval e env) :: starEach es env := by intro _; rfl) (hpl : ∀ env : PySem.Env, (backTo cp (starEach es env)).any (·.1) = false := by intro _; rfl)
    (hw : ∀ env : PySem.Env, swapsWith (.Call (.Attribute (.Subscript (.Name x xp) a up) nm ap) (e :: es) [] cp) none pos.line env = pure false := by intro _; rfl) :
    SV G (.Expr (.Call (.Attribute (.Subscript (.Name x xp) a up) nm ap) (e :: es) [] cp) pos) (sLM2 i f2 m fs) := by
  obtain ⟨t, pp, q⟩ := h
  obtain ⟨t2, p2, q2⟩ := h2
  obtain ⟨id, r, sl, ty, hr, hm⟩ := L.ex
  refine ⟨fun W => tDrop (tBM G.K "list" r (tOp (rIxL G.K) (tVar i) (t2 W)) (t W)), fun X W k => ?_, fun W σ H ρ S o c D nt rs ps => ?_⟩
  · have hp := pe_ix (pos := up) (ix_list (X := X)) (pe_var (pos := xp) (k.at hN) (k.vis hv) hd hcd) (p2 X W k) hs2
    have := pe_bm (X := X) PySem.F.plainAttrs_list sl ty (hr X W k) hp (pp X W k) (hbase _) (hfew _) hline (hs _) (hpl _)
    rw [k.K] at this
    exact ps_expr this (hw _)
  unfold sLM2 at ps
  split at ps
  rotate_left
  · exact ps.elim
  · rename_i xss e2
    obtain ⟨v0, ev, _⟩ := rs.slot i _ e2
    refine ⟨v0, ev, (q2 W).s nt rs ps fun da S3 iv o3 c3 H3 s3 nt3 rs3 ri p3 => ?_⟩
    cases da with
    | int j =>
      cases e4 : ixN xss.length j with
      | none => simp only [e4] at p3; exact p3.elim
      | some k =>
        simp only [e4] at p3
        cases e5 : xss[k]? with
        | none => simp only [e5] at p3; exact p3.elim
        | some xs =>
          simp only [e5] at p3
          obtain ⟨a3, as, b3, vs, k3, y1, y2, y3, y4, y5, y6, y7, y8, y9, y10, _⟩ := own2_ix rs3 e2 (atI_ixN e4 e5)
          rw [ev] at y1
          cases y1
          rw [e4] at y4
          cases y4
          refine ⟨a3, _, j, .ref b3, rfl, ri.intV, .inl (.inl y2), y3, .inl ⟨rfl, vs, .of y8⟩, ?_⟩
          refine (q W).s nt3 rs3 p3 fun ts S5 us o5 c5 H5 s5 nt5 rs5 rj p5 => ?_
          cases e6 : allD ts with
          | none => simp only [e6] at p5; exact p5.elim
          | some ds =>
            simp only [e6] at p5
            cases e7 : m xs ds with
            | none => simp only [e7] at p5; exact p5.elim
            | some xd =>
              obtain ⟨xs', d'⟩ := xd
              simp only [e7] at p5
              obtain ⟨a5, as5, b5, vs5, k5, z1, z2, z3, z4, z5, z6, z7, z8, z9, z10, wr⟩ := own2_ix rs5 e2 (atI_ixN e4 e5)
              rw [ev] at z1
              cases z1
              rw [e4] at z4
              cases z4
              have hA : H5 a3 = some (.lst (as.map V.ref)) := s5.keep a3 _ y2 fun w hw => by
                obtain ⟨v', ev', a', as', e', q', _⟩ := rs3.slot i _ e2
                rw [ev] at ev'
                cases ev'
                cases e'
                rw [q'] at hw
                cases hw
                exact fun z => z
              rw [hA] at z2
              have has : as.map V.ref = as5.map V.ref := by
                simp only [Option.some.injEq, HO.lst.injEq] at z2
                exact z2
              have : b5 = b3 := by
                have h1 : (as5.map V.ref)[k]? = some (.ref b5) := by rw [List.getElem?_map, z6]; rfl
                have h2 : (as.map V.ref)[k]? = some (.ref b3) := by rw [List.getElem?_map, y6]; rfl
                rw [has, h1] at h2
                cases h2
                rfl
              subst this
              refine hm o5 H5 b5 vs5 xs us ds xs' d' _ z8 z9 z10 (rj.all e6) e7 fun v' vs' r' zl rv => ?_
              obtain ⟨s6, rs6⟩ := wr vs' xs' zl r'
              exact p5 σ o5 c5 _ s6 nt5 rs6
    | _ => exact p3.elim
end
end BV
/-! The by-value calculus: dicts of the module, numbers for keys, texts for values. -/
namespace BV
open PySem PySem.Spec PyProof.Rows L2
open He (ba eqO eqO_ok ga)

/-! ### the written dict -/
def entIS (e : DictEntry) (p : Int × Str) : Bool := (match e.key with | .int i _ => decide (i = p.1) | _ => false) && (decide (e.hash = hashInt p.1) && ((match e.val with | .str y _ => decide (y = p.2) | _ => false) && (PyData.strOk p.2 && decide (p.2.length ≤ sizeLine))))
def entsIS : List DictEntry → List (Int × Str) → Bool
  | [], [] => true
  | e :: es, p :: ps => entIS e p && entsIS es ps
  | _, _ => false
def dicIS (K : PySem.W.Frag) (a : Addr) (tb : List (Int × Str)) : Bool := match K.lookup a with
  | some ⟨.type c, none, .dict es _, sl⟩ => decide (c = "dict") && (sl.isEmpty && entsIS es.toList tb)
  | _ => false
def kisB (K : PySem.W.Frag) (x : Str) (tb : List (Int × Str)) : Bool := eqO (PySem.W.nsIn K mainGlobals x) (some (some (.ref (ga K x)))) && (dicIS K (ga K x) tb && decide ((tb.map (·.1)).Nodup))
structure KisF (K : PySem.W.Frag) (mg : Str → Option Value) (x : Str) (tb : List (Int × Str)) : Prop where
  ex : ∃ a, mg x = some (.ref a) ∧ dicIS K a tb = true ∧ (tb.map (·.1)).Nodup
theorem kisF_of {K : PySem.W.Frag} {h : Heap} {mg : Str → Option Value} {x : Str} {tb : List (Int × Str)} (X : K.In h) (Gn : h.Ns mainGlobals mg) (hc : kisB K x tb = true) : KisF K mg x tb := by
  obtain ⟨h1, h2⟩ := ba hc
  obtain ⟨h2, h3⟩ := ba h2
  exact ⟨ga K x, PySem.W.mg_of X Gn (eqO_ok h1), h2, of_decide_eq_true h3⟩
theorem ents_pairs {P : Program} {w : World} : ∀ {es : List DictEntry} {tb : List (Int × Str)}, entsIS es tb = true → ∃ kvs : List (Key × Value), Pairs (mixKind P w) es kvs ∧ kvs.map (·.1) = tb.map (fun p => (Sum.inl p.1 : Key)) ∧ (∀ e ∈ es, ∃ k, (mixKind P w).is k e.key = true ∧ e.hash = (mixKind P w).hash k) ∧
    ∀ i z, tb.lookup i = some z → ∃ t, valueAt kvs (Sum.inl i : Key) = some (.str z t) ∧ PyData.strOk z = true ∧ z.length ≤ sizeLine
  | [], [], _ => ⟨[], .nil, rfl, fun e h => (nomatch h), fun i z h => by simp at h⟩
  | [], _ :: _, h => by cases h
  | _ :: _, [], h => by cases h
  | e :: es, p :: tb, h => by
    obtain ⟨h1, h2⟩ := ba h
    obtain ⟨kvs, q1, q2, q3, q4⟩ := ents_pairs (P := P) (w := w) h2
    obtain ⟨a1, h1⟩ := ba h1
    obtain ⟨a2, h1⟩ := ba h1
    obtain ⟨a3, h1⟩ := ba h1
    obtain ⟨a4, a5⟩ := ba h1
    have ik : (mixKind P w).is (Sum.inl p.1 : Key) e.key = true := by
      cases ek : e.key with
      | int i t =>
        rw [ek] at a1
        have : i = p.1 := of_decide_eq_true a1
        subst this
        exact keyIs_int _ t
      | _ => rw [ek] at a1; cases a1
    obtain ⟨t, ev⟩ : ∃ t, e.val = .str p.2 t := by
      cases ek : e.val with
      | str y t =>
        rw [ek] at a3
        have : y = p.2 := of_decide_eq_true a3
        subst this
        exact ⟨t, rfl⟩
      | _ => rw [ek] at a3; cases a3
    refine ⟨(Sum.inl p.1, e.val) :: kvs, .cons ik rfl q1, by rw [List.map_cons, List.map_cons, q2], fun f hf => ?_, fun i z hz => ?_⟩
    · rcases List.mem_cons.mp hf with e' | hf
      · subst e'
        exact ⟨Sum.inl p.1, ik, of_decide_eq_true a2⟩
      · exact q3 f hf
    · unfold valueAt
      rw [List.find?_cons]
      by_cases hi : i = p.1
      · subst hi
        have hz' : p.2 = z := by
          obtain ⟨pk, pv⟩ := p
          rw [List.lookup_cons, beq_self_eq_true] at hz
          exact Option.some.inj hz
        subst hz'
        simp only [decide_true]
        exact ⟨t, by rw [Option.map_some, ev], a4, of_decide_eq_true a5⟩
      · have hne : ¬ (Sum.inl p.1 : Key) = Sum.inl i := fun z => hi (Sum.inl.inj z).symm
        simp only [decide_eq_false hne]
        refine q4 i z ?_
        obtain ⟨pk, pv⟩ := p
        rw [List.lookup_cons] at hz
        have : (i == pk) = false := beq_eq_false_iff_ne.mpr hi
        rw [this] at hz
        exact hz
theorem dic_of {K : PySem.W.Frag} {h : Heap} {a : Addr} {tb : List (Int × Str)} {P : Program} {w : World} (X : K.In h) (hc : dicIS K a tb = true) (nd : (tb.map (·.1)).Nodup) : ∃ kvs : List (Key × Value), h.DictOf (mixKind P w) a kvs ∧ ∀ i z, tb.lookup i = some z → ∃ t, valueAt kvs (Sum.inl i : Key) = some (.str z t) ∧ PyData.strOk z = true ∧ z.length ≤ sizeLine := by
  unfold dicIS at hc
  cases e : K.lookup a with
  | none => rw [e] at hc; cases hc
  | some ob =>
    obtain ⟨oc, od, dt, sl⟩ := ob
    rw [e] at hc
    cases oc with
    | type c =>
      cases od with
      | none =>
        cases dt with
        | dict es n =>
          obtain ⟨h1, h2⟩ := ba hc
          obtain ⟨h2, h3⟩ := ba h2
          obtain ⟨kvs, q1, q2, q3, q4⟩ := ents_pairs (P := P) (w := w) h3
          have hsl : sl = #[] := by simpa using h2
          have hcl : c = "dict" := of_decide_eq_true h1
          subst hsl hcl
          refine ⟨kvs, ⟨_, es, n, X _ _ e, ⟨rfl, rfl, rfl⟩, rfl, fun en hen => q3 en (by simpa using hen), q1, ?_⟩, q4⟩
          rw [q2]
          rw [show (tb.map fun p => (Sum.inl p.1 : Key)) = (tb.map (·.1)).map Sum.inl by rw [List.map_map]; rfl]
          exact List.pairwise_map.mpr (List.Pairwise.imp (fun h z => h (Sum.inl.inj z)) nd)
        | _ => cases hc
      | some _ => cases hc
    | _ => cases hc
/-- d[e] -/
def rIxIS (a : Addr) (tb : List (Int × Str)) : R2 := fun x y H Q => ∃ (i : Int) (z : Str), x = .ref a ∧ y = .int i ∧ tb.lookup i = some z ∧ Q (.str z) H
theorem ix_IS {X : Cx} {a : Addr} {tb : List (Int × Str)} (hc : dicIS X.K a tb = true) (nd : (tb.map (·.1)).Nodup) : IxR X (rIxIS a tb) := by
  intro value slice pins s σ H x y v u Q I rx ry h hs
  obtain ⟨i, z, rfl, rfl, l, q⟩ := h
  obtain rfl : v = Value.ref a := rx
  obtain ⟨kvs, dd, hv⟩ := dic_of (P := X.prog) (w := X.w) I.kIn hc nd
  obtain ⟨t, e, _⟩ := hv i z l
  exact tail_any dd.mapOf.typeIs slot_dict_getitem.lookup (wpAny_getItem_of (kV_is (k := Sum.inl i) ry) dd.mapOf e ⟨.str z, H, I.tok _, ⟨t, rfl⟩, q⟩) hs
def cKis (tb : List (Int × Str)) (f : SE) : SE := fun ρ S => R.d (f ρ S) fun d S1 => match d with
  | .int i => (match tb.lookup i with | some z => if PyData.strOk z && decide (z.length ≤ sizeLine) then .ok (.val (.str z)) S1 else .bad | none => .bad)
  | _ => .bad
theorem ev_kis {G : Cc} {x : Str} {xp pos : Pos} {b : Expr} {f : SE} {tb : List (Int × Str)} (F : KisF G.K G.mg x tb) (h : UV G b f) (hs : PlainIx b := by exact fun _ _ => rfl) (hg : G.sc.names.lookup x = some .globalImplicit := by rfl) (hd : (x == ("__debug__" : Str)) = false := by decide) : EV G (.Subscript (.Name x xp) b pos) (cKis tb f) := by
  obtain ⟨a, hm, hc, nd⟩ := F.ex
  obtain ⟨t, p, q⟩ := h
  refine ⟨fun W => tOp (rIxIS a tb) (tC (.ref a)) (t W), fun X W k => ?_, fun W σ H ρ S o c Q nt rs ps => ?_⟩
  · exact pe_ix (ix_IS (by rw [k.K]; exact hc) nd) (pe_glob (v := .ref a) (k.gl hg) (k.m hm) rfl hd) (p X W k) hs
  · refine (q W).d nt rs ps fun d S1 v o1 c1 H1 s1 nt1 rs1 r1 p1 => ?_
    cases d with
    | int i =>
      cases e : tb.lookup i with
      | none => simp only [e] at p1; exact p1.elim
      | some z =>
        simp only [e] at p1
        by_cases hz : (PyData.strOk z && decide (z.length ≤ sizeLine)) = true
        · rw [if_pos hz] at p1
          obtain ⟨z1, z2⟩ := ba hz
          exact ⟨i, z, rfl, r1.intV, e, post_val rs1 p1 (.str z z1 (of_decide_eq_true z2))⟩
        · rw [if_neg hz] at p1; exact p1.elim
    | _ => exact p1.elim
end BV
/-! The by-value calculus: sets of a list's things, sorted or counted at once. -/
namespace BV
open PySem PySem.Spec PyProof.Rows L2

/-- an empty set, as the machine lays it -/
abbrev noSet (w : World) : Obj := { cls := .type "set", dict := none, data := .set #[] 0 (.fresh 0 0 (!w.params.followText "set-order")) }
/-- .. and a list's walker behind it -/
abbrev walker (l : Addr) : Obj := { cls := .type "list_iterator", data := .fields #[.ref l, .int 0 0] }
section
variable {P : Program} {w : World} {A : Around} {E : Value → Shared → Prop} {s : Shared}
/-- what a loop over the list's walker must bring about -/
def Fills (P : Program) (w : World) (A : Around) (s : Shared) (l : Addr) (Good : Heap → Prop) : Prop :=
  ∀ (B : Around) (R : Result → Shared → Prop), B.handled = none →
    (∀ (s2 : Shared), s2 = { s with heap := s2.heap, toks := s2.toks } → Good s2.heap → (∀ b o, s.heap.get? b = some o → s2.heap.get? b = some o) → R (.ok (.ret .none)) s2) →
    codeAny (model P w) B (.builtin "set.update.loop" ⟨[.ref s.heap.objs.size, .ref (s.heap.objs.size + 1)], []⟩) R { s with heap := (s.heap.push (noSet w)).push (walker l) }
/-- what a filled set leaves -/
abbrev madeAt (s : Shared) (Good : Heap → Prop) (E : Value → Shared → Prop) : Result → Shared → Prop := wants (fun r s₂ => r = .none ∧ s₂ = { s with heap := s₂.heap, toks := s₂.toks } ∧ Good s₂.heap ∧ ∀ b o, s.heap.get? b = some o → s₂.heap.get? b = some o) E
theorem init_list {l : Addr} {items : Array Value} {Good : Heap → Prop} {B C : Around} (hB : B.handled = none) (hl : s.heap.IsList l items) (fills : Fills P w A s l Good) :
    wpAny (model P w) B (Builtin.«set.__init__» ⟨[.ref s.heap.objs.size, .ref l], []⟩) (fun fin s' => match fin with | .done f => madeAt s Good E (.ok f) s' | .again c' => c'.quiet = true ∧ codeAny (model P w) C c' (madeAt s Good E) s') (fun e s' => madeAt s Good E (.error e) s') { s with heap := s.heap.push (noSet w) } := by
  have lp : (s.heap.push (noSet w)).IsList l items := hl.push _
  obtain ⟨⟨cl, di, da, sl⟩, ol, hc, nl, hd⟩ := lp
  simp only at hc hd
  subst hc
  subst hd
  have l1 : (s.heap.push (noSet w)).IsList l items := ⟨_, ol, rfl, nl, rfl⟩
  have q1 := PySem.F.sub_list_set
  have q2 := PySem.F.sub_list_frozenset
  have q3 : (Value.type "list" == Value.type "dict") = false := by decide
  unfold Builtin.«set.__init__» noKeywords Builtin.Frozenset.updateFrom
  generalize eI : pyIter = it
  wp_walk
  subst eI
  refine wpAny_pyIter_list l1 (wpAny_bind (wpAny_runValue ?_))
  have ez : (s.heap.push (noSet w)).objs.size = s.heap.objs.size + 1 := Heap.size_push ..
  dsimp only
  rw [ez]
  refine fills _ _ (by simp [hB]) fun s2 e2 g k => ?_
  refine wpAny_pure ?_
  exact wpAny_pure ⟨rfl, e2, g, k⟩
theorem call_set {l : Addr} {items : Array Value} {Good : Heap → Prop} {Q : Value → Shared → Prop} (hA : A.handled = none) (hl : s.heap.IsList l items) (fills : Fills P w A s l Good)
    (h : ∀ s2 : Shared, s2 = { s with heap := s2.heap, toks := s2.toks } → Good s2.heap → (∀ b o, s.heap.get? b = some o → s2.heap.get? b = some o) → Q (.ref s.heap.objs.size) s2) :
    wpAny (model P w) A (call (.type "set") [.ref l]) Q E s := by
  obtain ⟨c0, t0, m0⟩ := F.called_set.mro
  have m1 := F.called_set.made
  have m2 := F.called_set.sub
  have m3 := F.called_set.notType
  have m4 := F.called_set.canCreate
  have m5 := F.typeCall_set_1 (.ref l)
  refine wpAny_call (codeAny_of_tree ?_)
  show wpAny _ _ (callAny (.type "set") _) _ _ _
  refine wpAny_pure ⟨Code.quiet_builtin _ (by decide +kernel), codeAny_builtin F.entry_type_call ?_⟩
  rw [Around.under_plain (weight_type_call_type "set" [.ref l] []) rfl]
  repeat (any_goals (first | assumption | wp_step))
  refine codeAny_mono (code_set_led1 (.ref l) (E := E) (Q₁ := fun o s₁ => o = .ref s.heap.objs.size ∧ s₁ = { s with heap := s.heap.push (noSet w) }) ⟨rfl, rfl⟩) fun r s₁ hr => ?_
  match r, hr with
  | .ok (.ret o), hr =>
    obtain ⟨rfl, rfl⟩ := hr
    have here : (s.heap.push (noSet w)).get? s.heap.objs.size = some (noSet w) := Heap.get?_push_size _ rfl
    have hT : Shared.TypeIs { s with heap := s.heap.push (noSet w) } (.ref s.heap.objs.size) "set" := ⟨_, here, rfl⟩
    have n1 := F.called_set.init.lookup
    have n2 := F.called_set.init.bind (.ref s.heap.objs.size)
    repeat (any_goals (first | assumption | wp_step))
    refine codeAny_mono (codeAny_call_builtin (R := madeAt s Good E) F.called_set.init.plain F.entry_set_init (check_set_init_1 hT ?_)) fun r₂ s₂ h2 => ?_
    · exact init_list (by simp [hA]) hl fills
    · match r₂, h2 with
      | .ok (.ret r), h2 =>
        obtain ⟨rfl, e2, g, k⟩ := h2
        repeat (any_goals (first | assumption | wp_step))
        exact h s₂ e2 g k
      | .error e, h2 => exact h2
  | .error e, hr => exact hr
theorem moved_keeps {S I : Addr} {h0 h1 : Heap} {s1 s2 : Shared} {G : Array GenState → Array GenState → Prop} (m : Moved (S :: [I]) G s1 s2) (e1 : s1.heap = h1) (hk : ∀ b o, h0.get? b = some o → b ≠ S ∧ b ≠ I ∧ h1.get? b = some o) : ∀ b o, h0.get? b = some o → s2.heap.get? b = some o := by
  intro b o e
  obtain ⟨n1, n2, k⟩ := hk b o e
  subst e1
  exact m.heap b o (by simp only [List.mem_cons, List.not_mem_nil, or_false, not_or]; exact ⟨n1, n2⟩) k
theorem laid_keeps {l : Addr} : ∀ b o, s.heap.get? b = some o → b ≠ s.heap.objs.size ∧ b ≠ s.heap.objs.size + 1 ∧ ((s.heap.push (noSet w)).push (walker l)).get? b = some o := fun b o e => by
  have lt := Heap.lt_size e
  exact ⟨Nat.ne_of_lt lt, Nat.ne_of_lt (Nat.lt_succ_of_lt lt), Heap.get?_push_of_some _ (Heap.get?_push_of_some _ e)⟩
theorem fills_ints {l : Addr} {items : Array Value} {ns : List Int} (hl : s.heap.IsList l items) (hi : IntsAre items.toList ns) (hb : ns.length + 1 < scanBound) : Fills P w A s l (fun h => ∃ c, c ≤ ns.length ∧ SetR w h s.heap.objs.size (fun j => decide (j ∈ ns)) c) := by
  intro B R hB fin
  have en : items.size = ns.length := by have q := IntsAre.length hi; rw [Array.length_toList] at q; exact q
  have ez : (s.heap.push (noSet w)).objs.size = s.heap.objs.size + 1 := Heap.size_push ..
  obtain ⟨o, ol, r⟩ := hl
  have lt : l < s.heap.objs.size := Heap.lt_size ol
  have hl' : s.heap.IsList l items := ⟨o, ol, r⟩
  have W := (Walks.list (prog := P) (w := w) (A := B.in1) (by simp [hB]) (s.heap.objs.size + 1) l (Nat.ne_of_lt (Nat.lt_succ_of_lt lt)) items).toS
  refine set_update_ints W s.heap.objs.size (by simp only [List.mem_cons, List.not_mem_nil, or_false, not_or]; exact ⟨Nat.ne_of_lt (Nat.lt_succ_self _), Nat.ne_of_gt lt⟩) ns en hb (fun i v hv => ?_) items.size 0 _ rfl (Nat.zero_le _) ?_ ⟨0, Nat.le_refl 0, ?_⟩ fun s2 c m hc R2 => ?_
  · have h1 : i < ns.length := by rw [← en]; exact (Array.getElem?_eq_some_iff.mp hv).1
    obtain ⟨t, e⟩ := PyProof.Rows.IntsAre.int_at hi i v (by rw [Array.getElem?_toList]; exact hv)
    refine ⟨ns[i], t, List.getElem?_eq_getElem h1, ?_⟩
    rw [e, List.getD_eq_getElem?_getD, List.getElem?_eq_getElem h1]
    rfl
  · have q := Heap.get?_push_size (s.heap.push (noSet w)) (o := walker l) rfl
    rw [ez] at q
    exact ⟨⟨_, q, rfl, rfl⟩, (hl'.push _).push _⟩
  · exact setR_new_at (Heap.get?_push_of_some _ (Heap.get?_push_size _ rfl))
  · obtain ⟨hp, g2, d2, t2, o2⟩ := s2
    have eg : g2 = s.gens := m.gens
    have ed : d2 = s.drawn := m.drawn
    have eo : o2 = s.os := m.os
    subst eg ed eo
    exact fin _ rfl ⟨c, by rw [← en]; exact hc, R2⟩ (moved_keeps m rfl laid_keeps)
/-- a list's things, each once, in order -/
def once {α : Type} [DecidableEq α] (xs : List α) : List α := xs.foldl (fun acc x => if x ∈ acc then acc else acc ++ [x]) []
theorem once_snoc {α : Type} [DecidableEq α] (xs : List α) (x : α) : once (xs ++ [x]) = if x ∈ once xs then once xs else once xs ++ [x] := by
  unfold once
  rw [List.foldl_append]
  rfl
theorem once_len {α : Type} [DecidableEq α] (xs : List α) : (once xs).length ≤ xs.length := by
  generalize e : xs.reverse = ys
  have e2 : xs = ys.reverse := by rw [← e, List.reverse_reverse]
  subst e2
  clear e
  induction ys with
  | nil => exact Nat.le_refl _
  | cons y ys ih =>
    rw [List.reverse_cons, once_snoc, List.length_append]
    split
    · exact Nat.le_succ_of_le ih
    · rw [List.length_append]
      exact Nat.succ_le_succ ih
/-- the texts' set at an address -/
abbrev TextSet (P : Program) (w : World) (h : Heap) (a : Addr) (xs : List Str) : Prop := h.SetOf (PySem.strKind P w) a (fun x => decide (x ∈ once xs)) (once xs).length
theorem textSet_at {h h' : Heap} {a : Addr} {xs : List Str} (t : TextSet P w h a xs) (k : ∀ o, h.get? a = some o → h'.get? a = some o) : TextSet P w h' a xs := by
  obtain ⟨o, es, ep, tb, ho, r⟩ := t
  exact ⟨o, es, ep, tb, k o ho, r⟩
theorem loop_strs {B : Around} {I : Addr} {fp wr : List Addr} {G : Array GenState → Array GenState → Prop} {n : Nat} {Pv : Nat → Value → Prop} {St : Nat → Shared → Prop} {R : Result → Shared → Prop} (W : WalksS P w B.in1 I fp wr G n Pv St) (S : Addr) (off : S ∉ fp) (xs : List Str) (en : n = xs.length) (hb : xs.length + 1 < scanBound)
    (val : ∀ i v, Pv i v → ∃ x t, xs[i]? = some x ∧ v = .str x t) : ∀ (m i : Nat) (s : Shared), n - i = m → i ≤ n → St i s → TextSet P w s.heap S (xs.take i) → (∀ s', Moved (S :: wr) G s s' → TextSet P w s'.heap S xs → R (.ok (.ret .none)) s') →
      codeAny (model P w) B (.builtin "set.update.loop" ⟨[.ref S, .ref I], []⟩) R s := by
  have off2 : S ∉ wr := fun q => off (W.sub _ q)
  intro m
  induction m with
  | zero =>
    intro i s em hi st ts fin
    have ei : i = n := by omega
    subst ei
    refine codeAny_builtin F.entry_set_update_loop ?_
    rw [Around.under_plainId F.plain_set_update_loop _]
    show wpAny _ B.in1 (pyNext (.ref I) >>= _) _ _ s
    refine wpAny_bind (W.done s _ _ st fun s' mv => ?_)
    show wpAny _ B.in1 (ret Value.none) _ _ s'
    rw [List.take_of_length_le (Nat.le_of_eq en.symm)] at ts
    exact wpAny_pure (fin s' (mv.mono fun b q => List.mem_cons_of_mem _ q) (textSet_at ts fun o e => mv.heap S o off2 e))
  | succ m ih =>
    intro i s em hi st ts fin
    have lt : i < n := by omega
    refine codeAny_builtin F.entry_set_update_loop ?_
    rw [Around.under_plainId F.plain_set_update_loop _]
    show wpAny _ B.in1 (pyNext (.ref I) >>= _) _ _ s
    refine wpAny_bind (W.item i s _ _ lt st fun v s' pv st' mv => ?_)
    obtain ⟨x, t, ex, rfl⟩ := val i v pv
    have ts' := textSet_at ts fun o e => mv.heap S o off2 e
    have sl : (once (xs.take i)).length ≤ xs.length := Nat.le_trans (once_len _) (by rw [List.length_take]; omega)
    show wpAny _ B.in1 (holding [Value.str x t] (setAdd S (.str x t)) >>= _) _ _ s'
    refine wpAny_bind (wpAny_holding ?_)
    unfold setAdd
    refine wpAny_holding (wpAny_bind ((PySem.strKind P w).pyHash (k := x) (strKind_is _ _ _ _) ?_))
    refine wpAny_setAddHashed_of (knd := PySem.strKind P w) (s := { s' with toks := s'.toks + 1 }) (strKind_is _ _ _ _) rfl ts' (by omega) fun h2 sb ts2 => ?_
    have et : xs.take (i + 1) = xs.take i ++ [x] := by rw [List.take_add_one, ex]; rfl
    have ts3 : TextSet P w h2 S (xs.take (i + 1)) := by
      refine SetOf_congr ts2 (fun y => ?_) ?_
      · rw [et, once_snoc]
        by_cases q : x ∈ once (xs.take i)
        · rw [if_pos q]
          by_cases z : y = x
          · subst z
            simp [q]
          · simp [z]
        · rw [if_neg q]
          by_cases z : y = x
          · subst z
            simp
          · simp [z]
      · rw [et, once_snoc]
        by_cases q : x ∈ once (xs.take i)
        · simp [q]
        · simp [q]
    refine wpAny_pure ⟨plainId_quiet F.plain_set_update_loop _, ih (i + 1) _ (by omega) lt (W.frame _ s' _ _ st' (Nat.le_succ _) fun b hb2 o e => ?_) ts3 fun s3 mv3 ts4 => ?_⟩
    · rw [sb.2 b fun q : b = S => off (q ▸ hb2)]
      exact e
    · refine fin s3 (Moved.trans W.gtrans ((mv.mono fun b q => List.mem_cons_of_mem _ q).then_heap (Nat.le_succ _) fun b o hb2 e => ?_) mv3) ts4
      rw [sb.2 b fun q : b = S => hb2 (q ▸ List.mem_cons_self)]
      exact e
theorem strs_of {us : List Value} {xs : List Str} (h : Vals (xs.map V.str) us) (i : Nat) (v : Value) (e : us[i]? = some v) : ∃ x t, xs[i]? = some x ∧ v = .str x t := by
  induction us generalizing xs i with
  | nil => cases i <;> cases e
  | cons u us ih =>
    cases xs with
    | nil => cases h
    | cons x xs =>
      cases h with
      | cons r t =>
        cases i with
        | zero =>
          obtain ⟨k, rfl⟩ := r
          cases e
          exact ⟨x, k, rfl, rfl⟩
        | succ i => exact ih t i e
theorem fills_strs {l : Addr} {items : Array Value} {xs : List Str} (hl : s.heap.IsList l items) (hi : Vals (xs.map V.str) items.toList) (hb : xs.length + 1 < scanBound) : Fills P w A s l (fun h => TextSet P w h s.heap.objs.size xs) := by
  intro B R hB fin
  have en : items.size = xs.length := by have q := hi.length; rw [List.length_map, Array.length_toList] at q; exact q.symm
  have ez : (s.heap.push (noSet w)).objs.size = s.heap.objs.size + 1 := Heap.size_push ..
  obtain ⟨o, ol, r⟩ := hl
  have lt : l < s.heap.objs.size := Heap.lt_size ol
  have hl' : s.heap.IsList l items := ⟨o, ol, r⟩
  have W := (Walks.list (prog := P) (w := w) (A := B.in1) (by simp [hB]) (s.heap.objs.size + 1) l (Nat.ne_of_lt (Nat.lt_succ_of_lt lt)) items).toS
  refine loop_strs W s.heap.objs.size (by simp only [List.mem_cons, List.not_mem_nil, or_false, not_or]; exact ⟨Nat.ne_of_lt (Nat.lt_succ_self _), Nat.ne_of_gt lt⟩) xs en hb (fun i v hv => strs_of hi i v (by rw [Array.getElem?_toList]; exact hv)) items.size 0 _ rfl (Nat.zero_le _) ?_ ?_ fun s2 m ts => ?_
  · have q := Heap.get?_push_size (s.heap.push (noSet w)) (o := walker l) rfl
    rw [ez] at q
    exact ⟨⟨_, q, rfl, rfl⟩, (hl'.push _).push _⟩
  · exact SetOf_congr ((setObjOf_fresh (knd := PySem.strKind P w) (!w.params.followText "set-order")).setOf (Heap.get?_push_of_some _ (Heap.get?_push_size _ rfl)) (by unfold scanBound; omega)) (fun _ => rfl) rfl
  · obtain ⟨hp, g2, d2, t2, o2⟩ := s2
    have eg : g2 = s.gens := m.gens
    have ed : d2 = s.drawn := m.drawn
    have eo : o2 = s.os := m.os
    subst eg ed eo
    exact fin _ rfl ts (moved_keeps m rfl laid_keeps)
end
theorem once_snd {α : Type} [DecidableEq α] (xs : List α) : (once xs).Nodup ∧ ∀ x, x ∈ once xs ↔ x ∈ xs := by
  generalize e : xs.reverse = ys
  have e2 : xs = ys.reverse := by rw [← e, List.reverse_reverse]
  subst e2
  clear e
  induction ys with
  | nil => exact ⟨List.nodup_nil, fun x => Iff.rfl⟩
  | cons y ys ih =>
    obtain ⟨h1, h2⟩ := ih
    rw [List.reverse_cons, once_snoc]
    by_cases q : y ∈ once ys.reverse
    · rw [if_pos q]
      refine ⟨h1, fun x => ?_⟩
      rw [List.mem_append, h2, List.mem_singleton]
      refine ⟨.inl, fun z => ?_⟩
      rcases z with z | rfl
      · exact z
      · exact (h2 x).mp q
    · rw [if_neg q]
      refine ⟨?_, fun x => ?_⟩
      · rw [List.nodup_append]
        refine ⟨h1, by simp, fun a ha b hb => ?_⟩
        rw [List.mem_singleton] at hb
        subst hb
        exact fun z => q (z ▸ ha)
      · rw [List.mem_append, List.mem_append, h2]
/-- a set's numbers, rising -/
def setI (ns : List Int) : List Int := sortI (once ns)
theorem setI_uniq {ns out : List Int} (h : out.Pairwise (· < ·)) (hm : ∀ k : Int, k ∈ out ↔ k ∈ ns) : out = setI ns := by
  obtain ⟨h1, h2⟩ := once_snd ns
  have nd : out.Nodup := h.imp fun q => Int.ne_of_lt q
  have p : out.Perm (once ns) := (List.perm_ext_iff_of_nodup nd h1).mpr fun k => by rw [hm, h2]
  exact sortB_uniq linI p (h.imp fun q => by unfold leI; exact decide_eq_true (Int.le_of_lt q))
/-! ### sorted(set(xs)), len(set(xs)) -/
def tSortSet (K : PySem.W.Frag) (ta : TE) : TE := fun σ H Q => ta σ H fun v H1 => ∃ (l : Addr) (ns : List Int), v = .ref l ∧ SqL K H1 l (ns.map V.int) ∧ ns.length < 64 ∧
  ∀ (out : List Int) (p : Addr), out.Pairwise (· < ·) → (∀ k : Int, k ∈ out ↔ k ∈ ns) → out.length ≤ ns.length → H1 p = none → Q (.ref p) (upd H1 p (.lst (out.map V.int)))
def tCountSet (K : PySem.W.Frag) (ta : TE) : TE := fun σ H Q => ta σ H fun v H1 => ∃ (l : Addr) (xs : List Str), v = .ref l ∧ SqL K H1 l (xs.map V.str) ∧ xs.length ≤ 1000 ∧ Q (.int (once xs).length) H1
section
variable {X : Cx} {a : Expr} {ta : TE} {p p2 q pos : Pos}
theorem pe_sortSet (hc : X.calm = true) (hg : Gl X "sorted") (hm : X.mg "sorted" = none) (hg2 : Gl X "set") (hm2 : X.mg "set" = none) (ha : PE X a ta) (na : starEach [a] X.env = (false, eval a X.env) :: starEach [] X.env := by rfl) :
    PE X (.Call (.Name "sorted" p) [.Call (.Name "set" p2) [a] [] q] [] pos) (tSortSet X.K ta) := by
  refine ⟨fun pins s σ H Q I h => ?_⟩
  refine Call_ (ld_blt I hg hm PyProof.Rows.boot_sorted ?_)
  refine PyProof.Rows.callWith_builtin1 (PyProof.Rows.args_cons ?_ rfl) rfl rfl
  refine Call_ (ld_blt I hg2 hm2 PyProof.Rows.boot_set ?_)
  refine PyProof.Rows.callWith_type1 (PyProof.Rows.args_cons (thn (ha.run pins s σ H _ I h) fun v s1 ⟨x, H1, I1, r1, q1⟩ => PyProof.Rows.args_nil ?_) na) na rfl
  obtain ⟨l, ns, rfl, hq, hl, q1⟩ := q1
  cases r1
  obtain ⟨its, r, pl, hz⟩ := I1.list hq
  refine BV.call_set (I1.ok.hd hc) pl.isList (fills_ints (ns := ns) pl.isList (by simpa using ints_of_vals r) (by unfold scanBound; omega)) fun s2 e2 ⟨c, hc2, R2⟩ k => PyProof.Rows.args_nil ?_
  have I2 : Inv X pins σ H1 s2 := by rw [e2]; exact I1.kept k
  refine sorted_set R2 (I2.ok.hd hc) (by omega) fun s' p out c' ns2 k2 g o hp hg2 hi hs hm2 hl2 => ?_
  have hlen : (ns2.map V.int).length ≤ sizeLine := by rw [List.length_map, hl2, sizeLine_eq]; omega
  have hn : H1 p = none := I2.hok.fresh hp
  have J : Inv X pins σ (upd H1 p (.lst (ns2.map V.int))) { s2 with heap := s'.heap, gens := s'.gens, drawn := s'.drawn, toks := s'.toks } :=
    I2.call (ch := []) (Un.laid k2 hp hn) (I2.hok.laid k2 hp ⟨hlen, out.toList, c', vals_of_ints hi, hg2⟩) (by rw [g]; exact I2.bare) (fun _ z => nomatch z)
  have e3 : s' = { s2 with heap := s'.heap, gens := s'.gens, drawn := s'.drawn, toks := s'.toks } := by
    cases s'
    cases s2
    cases o
    rfl
  rw [e3]
  exact ⟨.ref p, _, J, rfl, q1 ns2 p hs (fun j => by rw [hm2 j, decide_eq_true_eq]) (by omega) hn⟩
theorem pe_countSet (hc : X.calm = true) (hg : Gl X "len") (hm : X.mg "len" = none) (hg2 : Gl X "set") (hm2 : X.mg "set" = none) (ha : PE X a ta) (na : starEach [a] X.env = (false, eval a X.env) :: starEach [] X.env := by rfl) :
    PE X (.Call (.Name "len" p) [.Call (.Name "set" p2) [a] [] q] [] pos) (tCountSet X.K ta) := by
  refine ⟨fun pins s σ H Q I h => ?_⟩
  refine Call_ (ld_blt I hg hm boot_len ?_)
  refine PyProof.Rows.callWith_builtin1 (PyProof.Rows.args_cons ?_ rfl) rfl rfl
  refine Call_ (ld_blt I hg2 hm2 PyProof.Rows.boot_set ?_)
  refine PyProof.Rows.callWith_type1 (PyProof.Rows.args_cons (thn (ha.run pins s σ H _ I h) fun v s1 ⟨x, H1, I1, r1, q1⟩ => PyProof.Rows.args_nil ?_) na) na rfl
  obtain ⟨l, xs, rfl, hq, hl, q1⟩ := q1
  cases r1
  obtain ⟨its, r, pl, hz⟩ := I1.list hq
  refine BV.call_set (I1.ok.hd hc) pl.isList (fills_strs (xs := xs) pl.isList (by simpa using r) (by unfold scanBound; omega)) fun s2 e2 ts k => PyProof.Rows.args_nil ?_
  have I2 : Inv X pins σ H1 s2 := by rw [e2]; exact I1.kept k
  obtain ⟨o, es, ep, t, ho, hex, hd, _, _, _, hf, hn⟩ := ts
  have hle := once_len xs
  refine call_len_set ho hex hd hf (by rw [hn]; omega) ⟨.int (once xs).length, H1, I2.tok _, ⟨_, by rw [hn]⟩, q1⟩
end
section
variable {G : Cc} {a : Expr} {f : SE} {p p2 q pos : Pos}
def gSortSet : BV.D → Option T
  | .list ds => match intsOf ds with
    | some ns => if ns.length < 64 then some (.own ((setI ns).map PyData.int)) else none
    | none => none
  | _ => none
def gCountSet : BV.D → Option T
  | .list ds => match strsOf ds with
    | some xs => if xs.length ≤ 1000 then some (.val (.int ((once xs).length : Nat))) else none
    | none => none
  | _ => none
theorem ev_sortSet (h : UV G a f) (m1 : G.mg "sorted" = none) (m2 : G.mg "set" = none) (hcm : G.hot = none := by rfl) (g1 : G.sc.names.lookup ("sorted" : Str) = some .globalImplicit := by rfl) (g2 : G.sc.names.lookup ("set" : Str) = some .globalImplicit := by rfl)
    (he : ∀ env : PySem.Env, starEach [a] env = (false, eval a env) :: starEach [] env := by intro _; rfl) : EV G (.Call (.Name "sorted" p) [.Call (.Name "set" p2) [a] [] q] [] pos) (cUn gSortSet f) := by
  obtain ⟨t, pe, qe⟩ := h
  refine ⟨fun W => tSortSet G.K (t W), fun X W k => ?_, fun W σ H ρ S o c Q nt rs ps => ?_⟩
  · have z := pe_sortSet (X := X) (p := p) (p2 := p2) (q := q) (pos := pos) (k.calm hcm) (k.gl g1) (k.m m1) (k.gl g2) (k.m m2) (pe X W k) (he _)
    rw [k.K] at z
    exact z
  · refine (qe W).d nt rs ps fun d S1 v1 o1 c1 H1 s1 nt1 rs1 r1 p1 => ?_
    unfold gSortSet at p1
    split at p1
    · rename_i t1 e1
      split at e1
      · rename_i ds
        split at e1
        · rename_i ns en
          by_cases h64 : ns.length < 64
          · rw [if_pos h64] at e1
            cases e1
            obtain ⟨l, us, ev, h1, _, z1, ra⟩ := r1.lstV
            rw [ints_inv en] at ra
            have eu := rep_ints ra
            subst eu
            refine ⟨l, ns, ev, .of h1, h64, fun out p pw pm pl n => ?_⟩
            have e2 := setI_uniq pw pm
            rw [e2] at pl ⊢
            exact post_own rs1 p1 n (by rw [List.length_map]; exact Nat.le_trans pl (by rw [List.length_map] at z1; exact z1)) (RepAll.ints _)
          · rw [if_neg h64] at e1; cases e1
        · cases e1
      · cases e1
    · exact p1.elim
theorem ev_countSet (h : UV G a f) (m1 : G.mg "len" = none) (m2 : G.mg "set" = none) (hcm : G.hot = none := by rfl) (g1 : G.sc.names.lookup ("len" : Str) = some .globalImplicit := by rfl) (g2 : G.sc.names.lookup ("set" : Str) = some .globalImplicit := by rfl)
    (he : ∀ env : PySem.Env, starEach [a] env = (false, eval a env) :: starEach [] env := by intro _; rfl) : EV G (.Call (.Name "len" p) [.Call (.Name "set" p2) [a] [] q] [] pos) (cUn gCountSet f) := by
  obtain ⟨t, pe, qe⟩ := h
  refine ⟨fun W => tCountSet G.K (t W), fun X W k => ?_, fun W σ H ρ S o c Q nt rs ps => ?_⟩
  · have z := pe_countSet (X := X) (p := p) (p2 := p2) (q := q) (pos := pos) (k.calm hcm) (k.gl g1) (k.m m1) (k.gl g2) (k.m m2) (pe X W k) (he _)
    rw [k.K] at z
    exact z
  · refine (qe W).d nt rs ps fun d S1 v1 o1 c1 H1 s1 nt1 rs1 r1 p1 => ?_
    unfold gCountSet at p1
    split at p1
    · rename_i t1 e1
      split at e1
      · rename_i ds
        split at e1
        · rename_i xs ex
          by_cases hk : xs.length ≤ 1000
          · rw [if_pos hk] at e1
            cases e1
            obtain ⟨l, us, ev, h1, _, z1, ra⟩ := r1.lstV
            rw [strs_inv ex] at ra
            obtain ⟨eu, _⟩ := rep_strs ra
            subst eu
            exact ⟨l, xs, ev, .of h1, hk, post_val rs1 p1 (.int _)⟩
          · rw [if_neg hk] at e1; cases e1
        · cases e1
      · cases e1
    · exact p1.elim
end
end BV
/-! The by-value calculus: rows of an own list cleared one by one; the rows let go. -/
namespace BV
open PySem L2

/-! ### for x in rows: x.clear() -/
def clrN (n : Nat) (xss : List (List BV.D)) : List (List BV.D) := xss.mapIdx fun k xs => if k < n then [] else xs
theorem clr_get (n : Nat) (xss : List (List BV.D)) (k : Nat) : (clrN n xss)[k]? = xss[k]?.map fun xs => if k < n then [] else xs := by
  unfold clrN
  rw [List.getElem?_mapIdx]
theorem clr_len (n : Nat) (xss : List (List BV.D)) : (clrN n xss).length = xss.length := by unfold clrN; simp
theorem clr_zero (xss : List (List BV.D)) : clrN 0 xss = xss := by
  refine List.ext_getElem? fun k => ?_
  rw [clr_get]
  simp
theorem clr_all (xss : List (List BV.D)) : clrN xss.length xss = xss.map fun _ => [] := by
  refine List.ext_getElem? fun k => ?_
  rw [clr_get, List.getElem?_map]
  cases e : xss[k]? with
  | none => rfl
  | some x =>
    have hk := (List.getElem?_eq_some_iff.mp e).1
    simp [hk]
theorem clr_set {n : Nat} {xss : List (List BV.D)} (h : n < xss.length) : (clrN n xss).set n [] = clrN (n + 1) xss := by
  refine List.ext_getElem? fun k => ?_
  rw [List.getElem?_set, clr_get, clr_get, clr_len]
  by_cases hk : n = k
  · subst hk
    simp [h]
  · rw [if_neg hk]
    cases e : xss[k]? with
    | none => rfl
    | some x =>
      have : (k < n) ↔ (k < n + 1) := by omega
      simp [this]
theorem set_selfC {α : Type} {l : List α} {i : Nat} {x : α} (h : l[i]? = some x) : l.set i x = l := by
  refine List.ext_getElem? fun k => ?_
  rw [List.getElem?_set]
  have hi := (List.getElem?_eq_some_iff.mp h).1
  by_cases hk : i = k
  · subst hk; rw [if_pos rfl, if_pos hi, h]
  · rw [if_neg hk]
def sClr (i j : Nat) : SS := fun ρ S => match ρ[i]? with
  | some (some (.own2 xss)) => if i = j ∨ ρ.length ≤ j then .bad else .nx ((ρ.set j none).set i (some (.own2 (xss.map fun _ => [])))) S
  | _ => .bad
section
variable {G : Cc} {W : WX} {o o1 : Gh} {c c1 : Cs} {ρ : En} {S : Sto} {σ : L2.St} {H H1 : Hp} {pos xp lp ap cp : Pos} {i j : Nat} {x l : Str}
theorem RS.dim {K : PySem.W.Frag} {v : V} (rs : RS K o c ρ S σ H) : RS K o c (ρ.set j none) S σ H := ⟨by rw [List.length_set]; exact rs.len, fun m t e => by
  by_cases hj : j = m
  · subst hj
    rw [List.getElem?_set] at e
    simp only [if_true] at e
    split at e <;> cases e
  · rw [List.getElem?_set_ne hj] at e
    exact rs.slot m t e, rs.cs⟩
/-- a slot that stands for nothing may hold anything -/
theorem RS.any {K : PySem.W.Frag} {v : V} (rs : RS K o c ρ S σ H) (h : ∀ t, ρ[j]? ≠ some (some t)) : RS K o c ρ S (σ.set j (some v)) H := ⟨by rw [List.length_set]; exact rs.len, fun m t e => by
  have hj : j ≠ m := fun z => h t (z ▸ e)
  rw [List.getElem?_set_ne hj]
  exact rs.slot m t e, rs.cs⟩
theorem sv_clr (i j : Nat) (hi : G.N[i]? = some l := by rfl) (hj : G.N[j]? = some x := by rfl) (hv : Vis G.sc l := by first | exact Or.inl rfl | exact Or.inr (Or.inl rfl) | exact Or.inr (Or.inr rfl)) (hvx : Vis G.sc x := by first | exact Or.inl rfl | exact Or.inr (Or.inl rfl) | exact Or.inr (Or.inr rfl))
    (hx : Loc G.sc x := by first | exact Or.inl rfl | exact Or.inr rfl) (nd : G.N.Nodup := by (try dsimp only [Cc.blk]); decide +kernel) (hf : G.fn x = true ∨ G.sc.names.lookup x = some .local := by first | exact Or.inl rfl | exact Or.inr rfl) (hcm : G.hot = none := by rfl)
    (hd : (l == ("__debug__" : Str)) = false := by decide) (hcd : (l == ("__classdict__" : Str)) = false := by decide) (hdx : (x == ("__debug__" : Str)) = false := by decide) (hcdx : (x == ("__classdict__" : Str)) = false := by decide)
    (hbase : ∀ env : PySem.Env, attributeBase (.Name x xp) "clear" env (eval (.Name x xp) env) = eval (.Name x xp) env := by intro _; rfl) (hline : (ap.endLine == cp.line) = true := by rfl) {bp tp : Pos}
    (hs : ∀ (env : PySem.Env) y, foldedSetIterable (.Name l lp) env y = pure y := by intro _ _; rfl)
    (hw : ∀ env : PySem.Env, swapsWith (.Call (.Attribute (.Name x xp) "clear" ap) [] [] cp) none bp.line env = pure false := by intro _; rfl) :
    SV G (.For (.Name x tp) (.Name l lp) [.Expr (.Call (.Attribute (.Name x xp) "clear" ap) [] [] cp) bp] [] pos) (sClr i j) := by
  obtain ⟨id, r, sl, ty, hr, hm⟩ := (lm_clear (G := G)).ex
  refine ⟨fun W => tFor (iList G.K (tVar i)) (gName j) (tSeq (tDrop (tBM0 G.K "list" r (tVar j))) tNext), fun X W k => ?_, fun W σ H ρ S o c D nt rs ps => ?_⟩
  · have h1 := pi_list (tg := .Name x tp) (pe_var (X := X) (pos := lp) (k.at hi) (k.vis hv) hd hcd)
    rw [k.K] at h1
    exact ps_for k.po (k.calm hcm) h1 (pg_name (k.nd nd) (k.at hj) (k.loc hx) (k.hf hf)) (pss_cons (ps_expr (pe_lm0 j k sl ty (hr X W k) hj hvx hdx hcdx hbase hline) (hw _)) pss_nil) (hs _)
  unfold sClr at ps
  split at ps
  · rename_i xss e
    by_cases hij' : i = j ∨ ρ.length ≤ j
    · rw [if_pos hij'] at ps; exact ps.elim
    · rw [if_neg hij'] at ps
      have hij : ¬ i = j := fun z => hij' (.inl z)
      have hjρ : j < ρ.length := by omega
      obtain ⟨v, ev, a, as, rfl, q, h, ndp, z, le, f⟩ := rs.slot i _ e
      refine ⟨.ref a, ev, a, rfl, ⟨_, .of h⟩, ?_⟩
      have e' : (ρ.set j none)[i]? = some (some (.own2 xss)) := by rw [List.getElem?_set_ne (Ne.symm hij)]; exact e
      have hil := (List.getElem?_eq_some_iff.mp e').1
      refine ⟨fun n m σ' H' => m = xss.length - n ∧ n ≤ xss.length ∧ Step isVol o c H o c H' ∧ RS G.K o c ((ρ.set j none).set i (some (.own2 (clrN n xss)))) S σ' H' ∧ σ'[i]? = some (some (.ref a)),
        ⟨xss.length, by simp, Nat.zero_le _, Step.refl, by rw [clr_zero, set_selfC e']; exact rs.dim (v := .non), ev⟩, ?_⟩
      rintro n m σ2 H2 ⟨rfl, hn, s2, rs2, ev2⟩
      have eI : ((ρ.set j none).set i (some (.own2 (clrN n xss))))[i]? = some (some (.own2 (clrN n xss))) := List.getElem?_set_self hil
      obtain ⟨v2, ev2', a2, as2, rfl, q2, h2, ndp2, z2, le2, f2⟩ := rs2.slot i _ eI
      rw [ev2] at ev2'
      cases ev2'
      rw [clr_len] at le2
      by_cases hlt : n < xss.length
      · have hb : as2[n]? = some (as2[n]'(by omega)) := List.getElem?_eq_getElem (by omega)
        have hget : (as2.map V.ref)[n]? = some (.ref (as2[n]'(by omega))) := by rw [List.getElem?_map, hb]; rfl
        refine .inr ⟨⟨_, _, .of h2, hget⟩, fun σ' H' => Step isVol o c H o c H' ∧ RS G.K o c ((ρ.set j none).set i (some (.own2 (clrN (n + 1) xss)))) S σ' H' ∧ σ'[i]? = some (some (.ref a)), fun σ' H' q => ⟨xss.length - (n + 1), by omega, rfl, hlt, q.1, q.2⟩, fun y H3 yy => ?_⟩
        obtain ⟨eH, ey⟩ := yy
        have ey' := ey _ (.of h2)
        rw [hget] at ey'
        cases ey'
        subst eH
        have hx : (clrN n xss)[n]? = some xss[n] := by rw [clr_get, List.getElem?_eq_getElem hlt]; simp
        obtain ⟨a3, as3, b3, vs3, g1, g2, g3, g4, g5, g6, g7, g8, g9⟩ := own2_row rs2 eI hx
        rw [ev2] at g1
        cases g1
        rw [h2] at g2
        have ea : as2 = as3 := by
          have := g2
          simp only [Option.some.injEq, HO.lst.injEq] at this
          exact (List.map_inj_right (fun p q e => by cases e; rfl)).mp this
        subst ea
        rw [hb] at g4
        cases g4
        have hNj : j < σ2.length := by
          have := rs2.len
          rw [List.length_set, List.length_set] at this
          omega
        refine ⟨.ref as2[n], List.getElem?_set_self hNj, .inl ⟨rfl, vs3, .of g6⟩, ?_⟩
        refine hm o H3 _ vs3 xss[n] [] [] [] .none _ g6 g7 g8 .nil rfl fun v' vs' ra' le' rv' => ?_
        obtain ⟨t1, t2⟩ := g9 vs' [] le' ra'
        rw [List.set_set, clr_set hlt] at t2
        refine ⟨s2.trans t1, t2.any ?_, ?_⟩
        · intro t z
          rw [List.getElem?_set_ne hij, List.getElem?_set] at z
          simp only [if_true] at z
          split at z <;> cases z
        · rw [List.getElem?_set_ne (Ne.symm hij)]
          exact ev2
      · have en : n = xss.length := by omega
        subst en
        refine .inl ⟨⟨_, .of h2, by rw [List.length_map, le2]; exact Nat.le_refl _⟩, ?_⟩
        rw [clr_all] at rs2
        exact ps σ2 o c H2 s2 nt rs2
  · exact ps.elim
end
/-! ### a name's rows are let go, its list stays -/
def sHz (i : Nat) (g : SS) : SS := fun ρ S => match ρ[i]? with
  | some (some (.own2 xss)) => g (ρ.set i (some (.own (xss.map PyData.list)))) S
  | _ => .bad
/-- slot i's things but a let go -/
def offR (o : Gh) (i : Nat) (a : Addr) : Gh := fun b => if b ≠ a ∧ o b = some (.slot i) then none else o b
section
variable {G : Cc} {W : WX} {o : Gh} {c : Cs} {ρ : En} {S : Sto} {σ : L2.St} {H : Hp} {i : Nat} {a : Addr}
theorem offR_none {b : Addr} (h : o b = none) : offR o i a b = none := by
  unfold offR
  split
  · rfl
  · exact h
theorem offR_keep {b : Addr} {w : Ow} (h : o b = some w) (n : w ≠ .slot i) : offR o i a b = some w := by
  unfold offR
  rw [if_neg (fun z => n (by have := z.2; rw [h] at this; cases this; rfl))]
  exact h
theorem offR_self : offR o i a a = o a := by
  unfold offR
  rw [if_neg (fun z => z.1 rfl)]
theorem offR_of {b : Addr} {w : Ow} (h : offR o i a b = some w) : o b = some w := by
  unfold offR at h
  split at h
  · cases h
  · exact h
theorem rows_rep {K : PySem.W.Frag} (tr : Trk o H) (k : Kept o H (offR o i a) H) : ∀ (as : List Addr) (xss : List (List BV.D)), as.length = xss.length → (∀ b ∈ as, b ≠ a) →
    (∀ (m : Nat) (b : Addr) (xs : List BV.D), as[m]? = some b → xss[m]? = some xs → o b = some (.slot i) ∧ ∃ vs, H b = some (.lst vs) ∧ vs.length ≤ sizeLine ∧ RepAll K o H vs xs) → RepAll K (offR o i a) H (as.map V.ref) (xss.map PyData.list)
  | [], [], _, _, _ => .nil
  | [], _ :: _, h, _, _ => by cases h
  | _ :: _, [], h, _, _ => by cases h
  | b :: as, xs :: xss, h, hn, f => by
    obtain ⟨q, vs, h1, h2, h3⟩ := f 0 b xs rfl rfl
    have hb : offR o i a b = none := by
      unfold offR
      rw [if_pos ⟨hn b (List.mem_cons_self ..), q⟩]
    exact .cons _ _ _ _ (.lst b vs xs h1 hb h2 (h3.kept tr k)) (rows_rep tr k as xss (by simpa using h) (fun b hb => hn b (List.mem_cons_of_mem _ hb)) fun m b xs e1 e2 => f (m + 1) b xs (by simpa using e1) (by simpa using e2))
theorem svs_hz (i : Nat) {sts : List Stmt} {g : SS} (h : SVs G sts g) : SVs G sts (sHz i g) := by
  obtain ⟨t, p, q⟩ := h
  refine ⟨t, p, fun W σ H ρ S o c D nt rs ps => ?_⟩
  unfold sHz at ps
  split at ps
  · rename_i xss e
    obtain ⟨v, ev, a, as, rfl, ho, hH, ndp, z, le, f⟩ := rs.slot i _ e
    have hi := (List.getElem?_eq_some_iff.mp e).1
    have k : Kept o H (offR o i a) H := fun b u e n => ⟨e, offR_none n⟩
    have s : Step isVol o c H (offR o i a) c H := ⟨fun b u e _ => e, fun b w e n => offR_keep e (fun z => by subst z; exact n trivial), fun b e n => absurd (offR_none e) n, List.prefix_refl c⟩
    refine q W σ H _ S (offR o i a) c D (fun b h => nt b (offR_of h)) ⟨by rw [List.length_set]; exact rs.len, fun j t' ej => ?_, ?_⟩ (PostS.step s ps)
    · by_cases hj : j = i
      · subst hj
        rw [List.getElem?_set_self hi] at ej
        simp only [Option.some.injEq] at ej
        subst ej
        refine ⟨.ref a, ev, a, _, rfl, by rw [offR_self]; exact ho, hH, by rw [List.length_map]; exact z, rows_rep rs.cs.trk k as xss le (fun b hb z => ?_) f⟩
        subst z
        exact (List.nodup_cons.mp ndp).1 hb
      · rw [List.getElem?_set_ne (Ne.symm hj)] at ej
        obtain ⟨v', e2, r3⟩ := rs.slot j t' ej
        refine ⟨v', e2, r3.same rs.cs.trk (fun b e => offR_none e) fun b e => offR_keep e (fun z => by cases z; exact hj rfl)⟩
    · exact rs.cs.move k (fun b n e => ⟨offR_keep e (by simp), fun u hu => hu⟩) fun b n => by
        cases e : offR o i a b with
        | none => exact absurd e n
        | some w => exact rs.cs.trk b (by rw [offR_of e]; simp)
  · exact ps.elim
end
/-! ### a test with names lent -/
def bBor (g : SB) : SB := fun ρ S => match g (frE ρ) S with
  | .ok b S1 => if lfS S1 then .ok b S1 else .bad
  | .exc e S1 => if lfS S1 then .exc e S1 else .bad
  | .bad => .bad
section
variable {G : Cc} {e : Expr} {g : SB}
theorem tv_bor (h : TV G e g) : TV G e (bBor g) := by
  obtain ⟨t, pp, q⟩ := h
  refine ⟨t, pp, fun W σ H ρ S o c Q nt rs p => ?_⟩
  refine q W σ H (frE ρ) S (dropO isSlot o) c Q (fun a h => nt a (dropO_of h).1) rs.fr ?_
  have ntb : ∀ o', NT o' → NT (giveB o o') := fun o' nt' a h => by
    unfold giveB at h
    split at h
    · cases h
    · exact nt' a h
  unfold bBor at p
  cases e1 : g (frE ρ) S with
  | bad => rw [e1] at p; exact p
  | exc e' S' =>
    rw [e1] at p
    intro cls d o' c' H' s rs' nt' x
    by_cases hb : lfS S' = true
    · simp only [if_pos hb] at p
      exact p cls d (giveB o o') c' H' (bor_step s) (rs.step (bor_step s) (bor_cs s rs.cs.trk rs'.cs hb)) (ntb _ nt') x
    · simp only [if_neg hb] at p; exact p.elim
  | ok b S' =>
    rw [e1] at p
    intro o' c' H' s nt' rs'
    by_cases hb : lfS S' = true
    · simp only [if_pos hb] at p
      exact p (giveB o o') c' H' (bor_step s) (ntb _ nt') (rs.step (bor_step s) (bor_cs s rs.cs.trk rs'.cs hb))
    · simp only [if_neg hb] at p; exact p.elim
end
end BV
namespace BV
open PySem PySem.Spec PyProof.Rows L2
def top (i : Nat) : Stmt := PySem.Challenge.pw_ribboncast_k06_cases_judged.main.body.getD i (.Pass ⟨0, 0, 0, 0⟩)
def s_is_whole : Stmt := top 20
def s_is_from : Stmt := top 21
def s_is_name : Stmt := top 27
def s_is_cell : Stmt := top 28
def s_is_shape : Stmt := top 29
def s_is_case : Stmt := top 30
def s_vet_case : Stmt := top 31
def s_law_cell : Stmt := top 33
def s_law_bag : Stmt := top 34
def s_law_take : Stmt := top 35
def s_law_name : Stmt := top 36
def s_law_case : Stmt := top 37
def s_law_whole : Stmt := top 38
def s_law_is_name : Stmt := top 39
def s_law_cell_good : Stmt := top 40
def s_law_is_case : Stmt := top 41
def s_law_vetted : Stmt := top 42
def s_law_good : Stmt := top 43
def s_law_odd_cell : Stmt := top 44
def s_law_spoilt : Stmt := top 45
def s_law : Stmt := top 46
def dd_is_whole : He.DefD := ⟨("is_whole", none), "is_whole", "is_whole", defArgs s_is_whole, defBody s_is_whole, defScope s_is_whole, [], []⟩
def dd_is_from : He.DefD := ⟨("is_from", none), "is_from", "is_from", defArgs s_is_from, defBody s_is_from, defScope s_is_from, [], []⟩
def dd_is_name : He.DefD := ⟨("is_name", none), "is_name", "is_name", defArgs s_is_name, defBody s_is_name, defScope s_is_name, [], []⟩
def dd_is_cell : He.DefD := ⟨("is_cell", none), "is_cell", "is_cell", defArgs s_is_cell, defBody s_is_cell, defScope s_is_cell, [], []⟩
def dd_is_shape : He.DefD := ⟨("is_shape", none), "is_shape", "is_shape", defArgs s_is_shape, defBody s_is_shape, defScope s_is_shape, [], []⟩
def dd_is_case : He.DefD := ⟨("is_case", none), "is_case", "is_case", defArgs s_is_case, defBody s_is_case, defScope s_is_case, [], []⟩
def dd_vet_case : He.DefD := ⟨("vet_case", none), "vet_case", "vet_case", defArgs s_vet_case, defBody s_vet_case, defScope s_vet_case, [], []⟩
def dd_law_cell : He.DefD := ⟨("_law_cell", none), "_law_cell", "_law_cell", defArgs s_law_cell, defBody s_law_cell, defScope s_law_cell, [], []⟩
def dd_law_bag : He.DefD := ⟨("_law_bag", none), "_law_bag", "_law_bag", defArgs s_law_bag, defBody s_law_bag, defScope s_law_bag, [], []⟩
def dd_law_take : He.DefD := ⟨("_law_take", none), "_law_take", "_law_take", defArgs s_law_take, defBody s_law_take, defScope s_law_take, [], []⟩
def dd_law_name : He.DefD := ⟨("_law_name", none), "_law_name", "_law_name", defArgs s_law_name, defBody s_law_name, defScope s_law_name, [], []⟩
def dd_law_case : He.DefD := ⟨("_law_case", none), "_law_case", "_law_case", defArgs s_law_case, defBody s_law_case, defScope s_law_case, [], []⟩
def dd_law_whole : He.DefD := ⟨("_law_whole", none), "_law_whole", "_law_whole", defArgs s_law_whole, defBody s_law_whole, defScope s_law_whole, [], []⟩
def dd_law_is_name : He.DefD := ⟨("_law_is_name", none), "_law_is_name", "_law_is_name", defArgs s_law_is_name, defBody s_law_is_name, defScope s_law_is_name, [], []⟩
def dd_law_cell_good : He.DefD := ⟨("_law_cell_good", none), "_law_cell_good", "_law_cell_good", defArgs s_law_cell_good, defBody s_law_cell_good, defScope s_law_cell_good, [], []⟩
def dd_law_is_case : He.DefD := ⟨("_law_is_case", none), "_law_is_case", "_law_is_case", defArgs s_law_is_case, defBody s_law_is_case, defScope s_law_is_case, [], []⟩
def dd_law_vetted : He.DefD := ⟨("_law_vetted", none), "_law_vetted", "_law_vetted", defArgs s_law_vetted, defBody s_law_vetted, defScope s_law_vetted, [], []⟩
def dd_law_good : He.DefD := ⟨("_law_good", none), "_law_good", "_law_good", defArgs s_law_good, defBody s_law_good, defScope s_law_good, [], []⟩
def dd_law_odd_cell : He.DefD := ⟨("_law_odd_cell", none), "_law_odd_cell", "_law_odd_cell", defArgs s_law_odd_cell, defBody s_law_odd_cell, defScope s_law_odd_cell, [], []⟩
def dd_law_spoilt : He.DefD := ⟨("_law_spoilt", none), "_law_spoilt", "_law_spoilt", defArgs s_law_spoilt, defBody s_law_spoilt, defScope s_law_spoilt, [], []⟩
def dd_law : He.DefD := ⟨("law", none), "law", "law", defArgs s_law, defBody s_law, defScope s_law, [], []⟩
def dfL0 : List He.DefD := [dd_is_whole, dd_is_from, dd_is_name, dd_is_cell, dd_is_shape, dd_is_case, dd_vet_case, dd_law_cell, dd_law_bag, dd_law_take, dd_law_name, dd_law_case, dd_law_whole, dd_law_is_name, dd_law_cell_good, dd_law_is_case, dd_law_vetted, dd_law_good, dd_law_odd_cell, dd_law_spoilt, dd_law]
def dfL : List He.DefD := dfL0
def faL0 : List He.Fa := [.glo "is_whole", .glo "is_from", .glo "is_name", .glo "is_cell", .glo "is_shape", .glo "is_case", .glo "vet_case", .glo "_law_cell", .glo "_law_bag", .glo "_law_take", .glo "_law_name", .glo "_law_case", .glo "_law_whole", .glo "_law_is_name", .glo "_law_cell_good", .glo "_law_is_case", .glo "_law_vetted", .glo "_law_good", .glo "_law_odd_cell", .glo "_law_spoilt", .glo "law", .str "BLANK" " ", .int "LEAST_SIZE" 2, .str "LETTERS" "abcdefghijklmnopqrstuvwxyz", .int "MOST_LETTERS" 3, .int "MOST_SIZE" 15, .int "MOST_UNITS" 30, .free "abs", .free "all", .free "any"]
def faL1 : List He.Fa := [.free "bool", .free "int", .free "isinstance", .free "len", .free "list", .free "max", .free "min", .free "range", .free "set", .free "str", .free "tuple", .free "zip", .glo "NoCase", .exc "NoCase", .free "ValueError"]
def faL : List He.Fa := faL0 ++ faL1
def exL : List (PySem.W.Frag → Bool) := [fun K => exmAll K "NoCase", fun K => excAllB K, fun K => isxB K "CastError", fun K => isxB K "Loose", fun K => isxB K "NoEnd", fun K => isxB K "NoHoles", fun K => isxB K "NoLayout", fun K => isxB K "NoLine", fun K => isxB K "NoLines", fun K => isxB K "NoMold", fun K => isxB K "NoName", fun K => isxB K "NoPaper", fun K => isxB K "NoRow", fun K => isxB K "NoStep", fun K => isxB K "NoText", fun K => isxB K "Tight", fun K => isxB K "TooMany", fun K => isxV K]
def tsL : List He.Tab := []
def nmL0 : List Str := ["CastError", "NoHoles", "NoCase", "NoName", "NoLayout", "Tight", "Loose", "NoLines", "TooMany", "NoEnd", "NoMold", "NoLine", "NoPaper", "NoText", "NoRow", "NoStep", "LEAST_SIZE", "MOST_SIZE", "is_whole", "is_from", "BLANK", "LETTERS", "MOST_UNITS", "MOST_LETTERS", "is_name", "is_cell", "is_shape", "is_case", "vet_case", "_law_cell"]
def nmL1 : List Str := ["_law_bag", "_law_take", "_law_name", "_law_case", "_law_whole", "_law_is_name", "_law_cell_good", "_law_is_case", "_law_vetted", "_law_good", "_law_odd_cell", "_law_spoilt"]
def nmL : List Str := nmL0 ++ nmL1
abbrev Rw : PySem.W.OpenRow := PySem.W.OpenLaw.row PySem.Challenge.rw_ribboncast_k06_cases_judged
abbrev hk : PySem.W.Hook := hookB 4 faL dfL tsL exL
def ob (s : PySem.W.SharedT) : AlB := obsB 4 faL dfL tsL exL (HandSHeadRun.getT s)
theorem ob_eq (s : PySem.W.SharedT) : ob s = hk.obs s.abs := obsB_eq (HandSHeadRun.getT_eq s)
set_option maxHeartbeats 0 in
theorem run (w : World) : HandSHeadRun.RunEq Rw (PySem.W.view Rw.prog [46]) hk ob 9000 nmL w := by
  intro os
  kernel_rfl
end BV
/-! The laws' builder: cell, bag, take. -/
namespace BV
open PySem L2

def g_law_cell : SS := sSeq (sIf (cB (cBin gLt (cVarU 1) (cScrLen 0))) (sRet (cScrIx 0 (cVarU 1))) sSkip)
    (sRet (cC (.int 0)))
def sem_law_cell : Fn := fnL 2 g_law_cell
def cM180 : SE := cBin gMul (cBin gMul (cBin gPow (cC (.int 10)) (cC (.int 60))) (cBin gPow (cC (.int 10)) (cC (.int 60)))) (cBin gPow (cC (.int 10)) (cC (.int 60)))
def cP18 : SE := cBin gPow (cC (.int 10)) (cC (.int 18))
def g_law_bag : SS := sSeq (sAsg 2 (cBin gMod (cB1 gAbs (uCons (cCall sem_law_cell (aCons (cVar 0) (aCons (cVar 1) aNil))) uNil)) cM180))
    (sSeq (sIf (cB (cBin gGe (cVarU 2) cP18)) (sRet (cList (aCons (cVar 2) (aCons (cC (.int 0)) aNil)))) sSkip)
    (sSeq (sAsg 3 (cBin gMod (cBin gAdd (cBin gAdd (cVarU 2) (cBin gMul (cC (.int 7919)) (cVarU 1))) (cC (.int 17))) (cC (.int 2147483647))))
    (sSeq (sFor (cRng gRng1 (uCons (cB1 gMin2 (uCons (cScrLen 0) (uCons (cC (.int 9)) uNil))) uNil)) (bName 4)
    (sAsg 3 (cBin gMod (cBin gAdd (cBin gAdd (cBin gPow (cVarU 3) (cC (.int 5))) (cBin gMod (cScrIx 0 (cVarU 4)) (cC (.int 2147483629)))) (cBin gMul (cC (.int 31)) (cVarU 4))) (cC (.int 2147483647)))))
    (sRet (cList (aCons (cVar 3) (aCons (cC (.int 1)) aNil)))))))
def sem_law_bag : Fn := fnL 5 g_law_bag
def g_law_take : SS := sSeq (sIf (cB (cBin (gEq false) (cCelIx 0 (cC (.int 1))) (cC (.int 0)))) (sSeq (sAsg 2 (cBin gMod (cCelIx 0 (cC (.int 0))) (cVarU 1)))
    (sSeq (sSetC 0 (cC (.int 0)) (cBin gDiv (cCelIx 0 (cC (.int 0))) (cVarU 1)))
    (sRetV 2))) sSkip)
    (sSeq (sSetC 0 (cC (.int 0)) (cBin gMod (cBin gAdd (cBin gAdd (cBin gPow (cCelIx 0 (cC (.int 0))) (cC (.int 5))) (cBin gMul (cC (.int 48271)) (cCelIx 0 (cC (.int 1))))) (cC (.int 11))) (cC (.int 2147483647))))
    (sSeq (sSetC 0 (cC (.int 1)) (cBin gAdd (cCelIx 0 (cC (.int 1))) (cC (.int 1))))
    (sRet (cBin gMod (cBin gDiv (cBin gMod (cBin gMul (cCelIx 0 (cC (.int 0))) (cC (.int 69621))) (cC (.int 2147483629))) (cC (.int 8))) (cVarU 1)))))
def sem_law_take : Fn := fnL 3 g_law_take

theorem log2_le {n k : Nat} (h : n < 2 ^ (k + 1)) : n.log2 ≤ k := by
  by_cases z : n = 0
  · subst z; simp
  · have := (Nat.log2_lt z).mpr h
    omega
/-- a bag: digits (b = 0), or mixed, behind at most m draws -/
structure Bag (m : Nat) (a b : Int) : Prop where
  a0 : 0 ≤ a
  b0 : 0 ≤ b
  bm : b ≤ m
  mx : b = 0 ∨ a < 2147483647
theorem Bag.mono {m m' : Nat} {a b : Int} (h : Bag m a b) (hm : m ≤ m') : Bag m' a b := ⟨h.a0, h.b0, by have := h.bm; omega, h.mx⟩
theorem cell_spec {ns : List Int} {k : Int} {S : Sto} (h0 : 0 ≤ k) : ∃ n, sem_law_cell [.scr ns, .val (.int k)] S = .ok (.val (.int n)) S := by
  unfold sem_law_cell
  by_cases h : k < ns.length
  · obtain ⟨v, e, _⟩ := atI_pos (xs := ns) h0 h
    exact ⟨v, by simp [e_fn, g_law_cell, h, e]⟩
  · exact ⟨0, by simp [e_fn, g_law_cell, h]⟩
theorem range_get {lo : Int} {n i : Nat} {d : D} (h : (rangeL lo n)[i]? = some d) : i < n ∧ d = .int (lo + i) := by
  unfold rangeL at h
  rw [List.getElem?_map] at h
  by_cases hi : i < n
  · rw [List.getElem?_range hi] at h
    exact ⟨hi, by simpa using h.symm⟩
  · rw [List.getElem?_eq_none (by rw [List.length_range]; omega)] at h
    cases h
theorem g_rng1 {n : Nat} (h : n ≤ sizeLine) : gRng1 [.int (n : Int)] = some (rangeL 0 n) := by
  have hc : (n : Int).toNat ≤ sizeLine ∧ smallI (n : Int) = true := ⟨by rw [Int.toNat_natCast]; exact h, smallI_of (by omega) (by have := sizeLine_eq; omega)⟩
  show (if (n : Int).toNat ≤ sizeLine ∧ smallI (n : Int) = true then some (rangeL 0 (n : Int).toNat) else none) = _
  rw [if_pos hc, Int.toNat_natCast]
/-- the great numbers, not written out -/
def M180 : Int := 10 ^ 60 * 10 ^ 60 * 10 ^ 60
def P18 : Int := 10 ^ 18
theorem M180_pos : 0 < M180 := by decide +kernel
@[simp] theorem c_M180 {ρ : En} {S : Sto} : cM180 ρ S = .ok (.val (.int M180)) S := by
  have e60 : cBin gPow (cC (.int 10)) (cC (.int 60)) ρ S = .ok (.val (.int (10 ^ 60))) S := by
    show R.d (R.ok _ S) _ = _
    show (match gPow (.int 10) (.int 60) with | some t => R.ok t S | none => .bad) = _
    rw [g_pow_i (by decide) (by decide) (by decide)]
    rfl
  have e120 : cBin gMul (cBin gPow (cC (.int 10)) (cC (.int 60))) (cBin gPow (cC (.int 10)) (cC (.int 60))) ρ S = .ok (.val (.int (10 ^ 60 * 10 ^ 60))) S := by
    rw [e_bin, e60, e_d_val, e60, e_d_val, g_mul_i (by decide +kernel)]
  show cBin gMul (cBin gMul (cBin gPow (cC (.int 10)) (cC (.int 60))) (cBin gPow (cC (.int 10)) (cC (.int 60)))) (cBin gPow (cC (.int 10)) (cC (.int 60))) ρ S = _
  rw [e_bin, e120, e_d_val, e60, e_d_val, g_mul_i (by decide +kernel)]
  rfl
@[simp] theorem c_P18 {ρ : En} {S : Sto} : cP18 ρ S = .ok (.val (.int P18)) S := by
  show (match gPow (.int 10) (.int 18) with | some t => R.ok t S | none => .bad) = _
  rw [g_pow_i (by decide) (by decide) (by decide)]
  rfl
theorem log_p31 {a : Int} (h0 : 0 ≤ a) (h : a < 2147483648) : a.natAbs.log2 ≤ 30 := log2_le (by omega)
theorem pow5_ok {a : Int} (h0 : 0 ≤ a) (h : a < 2147483647) : gPow (.int a) (.int 5) = some (.val (.int (a ^ 5))) := g_pow_i (by decide) (by decide) (by omega)
theorem mod_ok {j m : Int} (h : 0 < m) : gMod (.int j) (.int m) = some (.val (.int (j % m))) := g_mod_i h
theorem line9 : 9 ≤ sizeLine := by decide
theorem le_line {n : Nat} (h : n ≤ 100000) : n ≤ sizeLine := Nat.le_trans h (by decide)
theorem bag_spec {ns : List Int} {k : Int} {S : Sto} (h0 : 0 ≤ k) (h1 : k ≤ 1000) (hl : ns.length ≤ 63) : ∃ a b, sem_law_bag [.scr ns, .val (.int k)] S = .ok (.own [.int a, .int b]) S ∧ Bag 1 a b := by
  obtain ⟨n, en⟩ := cell_spec (ns := ns) (S := S) h0
  unfold sem_law_bag
  have hk : gMul (.int 7919) (.int k) = some (.val (.int (7919 * k))) := g_mul_i (by
    have h : (7919 : Int).natAbs.log2 ≤ 12 := by decide +kernel
    have h2 : k.natAbs.log2 ≤ 12 := log2_le (by omega)
    omega)
  generalize ec : (if n < 0 then -n else n) % M180 = c
  have c0 : 0 ≤ c := by rw [← ec]; exact Int.emod_nonneg _ (Int.ne_of_gt M180_pos)
  have e1 : ∀ g, (g_law_bag = sSeq (sAsg 2 (cBin gMod (cB1 gAbs (uCons (cCall sem_law_cell (aCons (cVar 0) (aCons (cVar 1) aNil))) uNil)) cM180)) g) →
      g_law_bag (start0 5 [.scr ns, .val (.int k)]) S = g [some (.scr ns), some (.val (.int k)), some (.val (.int c)), none, none] S := fun g e => by
    rw [e]
    simp [c_M180, en, mod_ok M180_pos, ec]
  rw [e_fn, e1 _ rfl]
  by_cases hc : P18 ≤ c
  · refine ⟨c, 0, ?_, ⟨c0, Int.le_refl _, by omega, .inl rfl⟩⟩
    simp [c_P18, hc]
  · have en' : (ns.length : Int) = ns.length := rfl
    -- the loop
    have em : (if (9 : Int) < ns.length then (9 : Int) else ns.length) = ((min ns.length 9 : Nat) : Int) := by
      split <;> omega
    have hmin : min ns.length 9 ≤ sizeLine := le_line (by omega)
    generalize ec3 : (c + 7919 * k + 17) % 2147483647 = c3
    have c30 : 0 ≤ c3 ∧ c3 < 2147483647 := by rw [← ec3]; constructor <;> omega
    obtain ⟨ρ', S', e2, c4, x, rfl, rfl, h4, h5⟩ := forL_inv (b := bName 4) (body := sAsg 3 (cBin gMod (cBin gAdd (cBin gAdd (cBin gPow (cVarU 3) (cC (.int 5))) (cBin gMod (cScrIx 0 (cVarU 4)) (cC (.int 2147483629)))) (cBin gMul (cC (.int 31)) (cVarU 4))) (cC (.int 2147483647))))
      (fun _ ρ S' => ∃ c4 x, ρ = [some (.scr ns), some (.val (.int k)), some (.val (.int c)), some (.val (.int c4)), x] ∧ S' = S ∧ (0 ≤ c4 ∧ c4 < 2147483647))
      (rangeL 0 (min ns.length 9)) 0 [some (.scr ns), some (.val (.int k)), some (.val (.int c)), some (.val (.int c3)), none] S ⟨c3, none, rfl, rfl, c30⟩ (by
        rintro i d ρ S2 hd ⟨c4, x, rfl, rfl, h4, h5⟩
        obtain ⟨hi, rfl⟩ := range_get hd
        have hi' : i < ns.length := by omega
        have g1 : atI ns (0 + (i : Int)) = some ns[i] := by
          rw [Int.zero_add]; exact atI_nat (List.getElem?_eq_getElem hi')
        rw [Int.zero_add] at g1
        have m1 : gMul (.int 31) (.int (i : Int)) = some (.val (.int (31 * (i : Int)))) := g_mul_i (by
          have h : (31 : Int).natAbs.log2 ≤ 12 := by decide +kernel
          have h2 : (i : Int).natAbs.log2 ≤ 12 := log2_le (by omega)
          omega)
        refine ⟨_, rfl, [some (.scr ns), some (.val (.int k)), some (.val (.int c)), some (.val (.int ((c4 ^ 5 + ns[i] % 2147483629 + 31 * (i : Int)) % 2147483647))), some (.val (.int (i : Int)))], S2, .inl ?_, (c4 ^ 5 + ns[i] % 2147483629 + 31 * (i : Int)) % 2147483647, _, rfl, rfl, Int.emod_nonneg _ (by decide), Int.emod_lt_of_pos _ (by decide)⟩
        simp [pow5_ok h4 h5, mod_ok, g1, m1])
    refine ⟨c4, 1, ?_, ⟨h4, by decide, by omega, .inr h5⟩⟩
    simp [hc, hk, mod_ok, ec3, em, g_rng1 hmin, e2]
/-- a draw -/
theorem take_spec {S : Sto} {n m : Nat} {a b k : Int} (hS : S[n]? = some (.lst [.int a, .int b])) (hb : Bag m a b) (hm : m ≤ 1000000000) (h0 : 0 < k) (h1 : k < 2 ^ 60) :
    ∃ r a' b', sem_law_take [.cel n, .val (.int k)] S = .ok (.val (.int r)) (S.set n (.lst [.int a', .int b'])) ∧ 0 ≤ r ∧ r < k ∧ Bag (m + 1) a' b' := by
  have hk : gMod (.int a) (.int k) = some (.val (.int (a % k))) := mod_ok h0
  have hset : ∀ c : Ce, (S.set n c)[n]? = some c := fun c => List.getElem?_set_self (List.getElem?_eq_some_iff.mp hS).1
  have i0 : ∀ x y : D, atI [x, y] 0 = some x := fun x y => rfl
  have i1 : ∀ x y : D, atI [x, y] 1 = some y := fun x y => rfl
  have j0 : ixN 2 0 = some 0 := rfl
  have j1 : ixN 2 1 = some 1 := rfl
  unfold sem_law_take
  by_cases z : b = 0
  · subst z
    have hd : gDiv (.int a) (.int k) = some (.val (.int (a / k))) := g_div_i h0 (by
      have : k.natAbs.log2 ≤ 60 := log2_le (by omega)
      omega)
    refine ⟨a % k, a / k, 0, ?_, Int.emod_nonneg _ (by omega), Int.emod_lt_of_pos _ h0, ⟨Int.ediv_nonneg hb.a0 (by omega), Int.le_refl _, by omega, .inl rfl⟩⟩
    simp [e_fn, g_law_take, hS, i0, i1, j0, hk, hd]
  · have hp := hb.mx.resolve_left z
    have hb0 := hb.b0
    have hbm := hb.bm
    have m1 : gMul (.int 48271) (.int b) = some (.val (.int (48271 * b))) := g_mul_i (by
      have h : (48271 : Int).natAbs.log2 ≤ 20 := by decide +kernel
      have h2 : b.natAbs.log2 ≤ 40 := log2_le (by omega)
      omega)
    generalize e1 : (a ^ 5 + 48271 * b + 11) % 2147483647 = a'
    have ha0 : 0 ≤ a' := by rw [← e1]; exact Int.emod_nonneg _ (by decide)
    have ha1 : a' < 2147483647 := by rw [← e1]; exact Int.emod_lt_of_pos _ (by decide)
    have m2 : gMul (.int a') (.int 69621) = some (.val (.int (a' * 69621))) := g_mul_i (by
      have h : (69621 : Int).natAbs.log2 ≤ 20 := by decide +kernel
      have h2 : a'.natAbs.log2 ≤ 40 := log2_le (by omega)
      omega)
    have d1 : ∀ j : Int, gDiv (.int j) (.int 8) = some (.val (.int (j / 8))) := fun j => g_div_i (by decide) (by decide +kernel)
    refine ⟨a' * 69621 % 2147483629 / 8 % k, a', b + 1, ?_, Int.emod_nonneg _ (by omega), Int.emod_lt_of_pos _ h0, ⟨ha0, by omega, by omega, .inr ha1⟩⟩
    simp [e_fn, g_law_take, hS, i0, i1, j0, j1, z, pow5_ok hb.a0 hp, m1, mod_ok, e1, hset, m2, d1, mod_ok h0]
end BV
/-! The laws' builder: names. -/
namespace BV
open PySem L2

def HasBag (S : Sto) (n m : Nat) : Prop := ∃ a b, S[n]? = some (.lst [.int a, .int b]) ∧ Bag m a b
/-- only cell n is another one -/
structure Ext (n : Nat) (S S' : Sto) : Prop where
  len : S'.length = S.length
  rest : ∀ j, j ≠ n → S'[j]? = S[j]?
theorem Ext.refl {n : Nat} {S : Sto} : Ext n S S := ⟨rfl, fun _ _ => rfl⟩
theorem Ext.trans {n : Nat} {S S1 S2 : Sto} (a : Ext n S S1) (b : Ext n S1 S2) : Ext n S S2 := ⟨b.len.trans a.len, fun j h => (b.rest j h).trans (a.rest j h)⟩
theorem Ext.set {n : Nat} {S : Sto} {c : Ce} : Ext n S (S.set n c) := ⟨List.length_set, fun j h => List.getElem?_set_ne (Ne.symm h)⟩
theorem HasBag.mono {S : Sto} {n m m' : Nat} (h : HasBag S n m) (hm : m ≤ m') : HasBag S n m' := by
  obtain ⟨a, b, e, q⟩ := h
  exact ⟨a, b, e, q.mono hm⟩
theorem draw {S : Sto} {n m : Nat} {k : Int} (hb : HasBag S n m) (hm : m ≤ 1000000000) (h0 : 0 < k) (h1 : k < 2 ^ 60) :
    ∃ r S', sem_law_take [.cel n, .val (.int k)] S = .ok (.val (.int r)) S' ∧ 0 ≤ r ∧ r < k ∧ HasBag S' n (m + 1) ∧ Ext n S S' := by
  obtain ⟨a, b, e, q⟩ := hb
  obtain ⟨r, a', b', h, h2, h3, h4⟩ := take_spec e q hm h0 h1
  exact ⟨r, _, h, h2, h3, ⟨a', b', List.getElem?_set_self (List.getElem?_eq_some_iff.mp e).1, h4⟩, Ext.set⟩
def g_law_name : SS := sSeq (sAsg 2 (cC (.str "")))
    (sSeq (sFor (cRng gRng1 (uCons (cBin gIx (cList (aCons (cC (.int 1)) (aCons (cC (.int 1)) (aCons (cC (.int 2)) (aCons (cC (.int 3)) aNil))))) (cCall sem_law_take (aCons (cVar 0) (aCons (cC (.int 4)) aNil)))) uNil)) (bName 3)
    (sAsg 2 (cBin gAdd (cVarU 2) (cBin gIx (cVarU 1) (cCall sem_law_take (aCons (cVar 0) (aCons (cB1 gLen (uCons (cVarU 1) uNil)) aNil)))))))
    (sRetV 2))
def sem_law_name : Fn := fnL 4 g_law_name
theorem str_len (x : Str) : x.cps.toList.length = x.length := by
  show x.cps.toList.length = x.cps.size
  simp
theorem g_add_s {x y : Str} (h : x.length + y.length ≤ sizeLine) : gAdd (.str x) (.str y) = some (.val (.str (x ++ y))) := by
  show (if _ then _ else _) = _
  rw [if_pos h]
theorem cps_append (x y : Str) : (x ++ y).cps.toList = x.cps.toList ++ y.cps.toList := by
  show (x.cps ++ y.cps).toList = _
  simp
theorem four : 4 ≤ sizeLine := by decide
/-- a name: one to three of the letters -/
structure NameOf (L : Str) (x : Str) : Prop where
  pos : 1 ≤ x.length
  most : x.length ≤ 3
  all : ∀ c ∈ x.cps.toList, c ∈ L.cps.toList
theorem name_spec {S : Sto} {n m : Nat} {L : Str} (hb : HasBag S n m) (hm : m ≤ 100000000) (hL : 1 ≤ L.length) (hL2 : L.length ≤ 100) :
    ∃ x S', sem_law_name [.cel n, .val (.str L)] S = .ok (.val (.str x)) S' ∧ NameOf L x ∧ HasBag S' n (m + 4) ∧ Ext n S S' := by
  obtain ⟨r, S1, e1, r0, r1, hb1, x1⟩ := draw (k := 4) hb (by omega) (by decide) (by decide)
  obtain ⟨q, eq, q1, q3⟩ : ∃ q : Nat, atI [PyData.int 1, PyData.int 1, PyData.int 2, PyData.int 3] r = some (.int (q : Int)) ∧ 1 ≤ q ∧ q ≤ 3 := by
    have : r = 0 ∨ r = 1 ∨ r = 2 ∨ r = 3 := by omega
    rcases this with h | h | h | h <;> subst h
    · exact ⟨1, rfl, by omega, by omega⟩
    · exact ⟨1, rfl, by omega, by omega⟩
    · exact ⟨2, rfl, by omega, by omega⟩
    · exact ⟨3, rfl, by omega, by omega⟩
  obtain ⟨ρ', S', e2, x, t, rfl, hb', x', hlen, hall⟩ := forL_inv (b := bName 3) (body := sAsg 2 (cBin gAdd (cVarU 2) (cBin gIx (cVarU 1) (cCall sem_law_take (aCons (cVar 0) (aCons (cB1 gLen (uCons (cVarU 1) uNil)) aNil))))))
    (fun i ρ S' => ∃ (x : Str) (t : Option T), ρ = [some (.cel n), some (.val (.str L)), some (.val (.str x)), t] ∧ HasBag S' n (m + 1 + i) ∧ Ext n S S' ∧ x.length = i ∧ ∀ c ∈ x.cps.toList, c ∈ L.cps.toList)
    (rangeL 0 q) 0 [some (.cel n), some (.val (.str L)), some (.val (.str "")), none] S1 ⟨"", none, rfl, hb1, x1, rfl, (by intro c hc; have h : (Str.ofString "").cps.toList = [] := TL.tl_ofString ""; rw [h] at hc; cases hc)⟩ (by
      rintro i d ρ S2 hd ⟨x, t, rfl, hb2, x2, hlen, hall⟩
      obtain ⟨hi, rfl⟩ := range_get hd
      obtain ⟨s, S3, e3, s0, s1, hb3, x3⟩ := draw (k := (L.length : Int)) hb2 (by omega) (by omega) (by omega)
      obtain ⟨c, ec, hc⟩ := atI_pos (xs := L.cps.toList) s0 (by rw [str_len]; exact s1)
      have ha : gAdd (.str x) (.str ⟨#[c]⟩) = some (.val (.str (x ++ ⟨#[c]⟩))) := g_add_s (le_line (by
        show x.length + 1 ≤ _
        omega))
      refine ⟨_, rfl, [some (.cel n), some (.val (.str L)), some (.val (.str (x ++ ⟨#[c]⟩))), some (.val (.int (0 + (i : Int))))], S3, .inl ?_, x ++ ⟨#[c]⟩, _, rfl, hb3, x2.trans x3, ?_, ?_⟩
      · simp [e3, ec, ha]
      · rw [length_append_str]
        show x.length + 1 = 0 + i + 1
        omega
      · intro c' hc'
        rw [cps_append] at hc'
        rcases List.mem_append.mp hc' with h | h
        · exact hall c' h
        · simp at h
          rw [h]
          exact List.mem_of_getElem? hc)
  have hq : q ≤ sizeLine := le_line (by omega)
  have hlq : (rangeL 0 q).length = q := by unfold rangeL; simp
  rw [hlq] at hb' hlen
  refine ⟨x, S', ?_, ⟨by omega, by omega, hall⟩, hb'.mono (by omega), x'⟩
  unfold sem_law_name
  simp [e_fn, g_law_name, e1, eq, g_rng1 hq, e2]
end BV
/-! The laws' builder: cases. -/
namespace BV
open PySem L2

/-! ### cases by rows -/
abbrev CellM := Option (Str × Int)
def cellD : CellM → D
  | none => .none
  | some (x, i) => .tuple [.str x, .int i]
def rowD (r : List CellM) : D := .tuple (r.map cellD)
def caseD (units : List Int) (rows : List (List CellM)) : D := .tuple [.tuple (units.map PyData.int), .tuple (rows.map rowD)]
def nameC (c : CellM) : Option Str := c.map Prod.fst
def namesOf (rows : List (List CellM)) : List Str := rows.flatten.filterMap nameC
def blank : Str := " "
structure IsName (x : Str) : Prop where
  pos : 1 ≤ x.length
  most : x.length ≤ 3
  all : ∀ c ∈ x.cps.toList, 97 ≤ c ∧ c ≤ 122
structure CaseOk (wide high : Nat) (units : List Int) (rows : List (List CellM)) : Prop where
  w2 : 2 ≤ wide
  h2 : 2 ≤ high
  hu : units.length = high
  hr : rows.length = high
  hw : ∀ r ∈ rows, r.length = wide
  un : ∀ u ∈ units, 1 ≤ u ∧ u ≤ 30
  cell : ∀ (i j : Nat) (r : List CellM) (x : Str) (c : Int), rows[i]? = some r → r[j]? = some (some (x, c)) → (x = blank ∧ c = 0) ∨ (IsName x ∧ (c = 0 ∨ c = 1 ∨ c = -1) ∧ ∃ u, units[i]? = some u ∧ 0 < u + c)
  nd : (namesOf rows).Nodup
  bl : blank ∈ namesOf rows
  few : (namesOf rows).length ≤ 31
theorem fm_set {α β : Type} {f : α → Option β} {v u : α} {y : β} (hu : f u = none) (hv : f v = some y) : ∀ {l : List α} {j : Nat}, l[j]? = some u → ((l.set j v).filterMap f).Perm (y :: l.filterMap f)
  | [], _, h => by simp at h
  | a :: l, 0, h => by
    simp at h
    subst h
    rw [List.set_cons_zero, List.filterMap_cons, hv, List.filterMap_cons, hu]
  | a :: l, j + 1, h => by
    have ih := fm_set hu hv (l := l) (j := j) (by simpa using h)
    rw [List.set_cons_succ, List.filterMap_cons, List.filterMap_cons]
    cases f a with
    | none => exact ih
    | some z => exact (List.Perm.cons z ih).trans (List.Perm.swap y z _)
theorem fl_set {α β : Type} {f : α → Option β} {y : β} {row row' : List α} (p : (row'.filterMap f).Perm (y :: row.filterMap f)) : ∀ {rows : List (List α)} {i : Nat}, rows[i]? = some row → ((rows.set i row').flatten.filterMap f).Perm (y :: rows.flatten.filterMap f)
  | [], _, h => by simp at h
  | a :: rows, 0, h => by
    simp at h
    subst h
    rw [List.set_cons_zero, List.flatten_cons, List.flatten_cons, List.filterMap_append, List.filterMap_append]
    exact p.append_right _
  | a :: rows, i + 1, h => by
    have ih := fl_set p (rows := rows) (i := i) (by simpa using h)
    rw [List.set_cons_succ, List.flatten_cons, List.flatten_cons, List.filterMap_append, List.filterMap_append]
    exact (ih.append_left _).trans List.perm_middle
theorem names_set {rows : List (List CellM)} {i j : Nat} {row : List CellM} {x : Str} {c : Int} (h : rows[i]? = some row) (h' : row[j]? = some none) : (namesOf (rows.set i (row.set j (some (x, c))))).Perm (x :: namesOf rows) :=
  fl_set (fm_set (f := nameC) rfl rfl h') h
/-- rows being laid: as CaseOk, the names so far known -/
structure Laying (wide high : Nat) (units : List Int) (rows : List (List CellM)) (nms : List Str) : Prop where
  hr : rows.length = high
  hw : ∀ r ∈ rows, r.length = wide
  cell : ∀ (i j : Nat) (r : List CellM) (x : Str) (c : Int), rows[i]? = some r → r[j]? = some (some (x, c)) → (x = blank ∧ c = 0) ∨ (IsName x ∧ (c = 0 ∨ c = 1 ∨ c = -1) ∧ ∃ u, units[i]? = some u ∧ 0 < u + c)
  nd : (namesOf rows).Nodup
  bl : blank ∈ namesOf rows
  sub : ∀ x ∈ namesOf rows, x = blank ∨ x ∈ nms
theorem nodup_le {α : Type} [DecidableEq α] : ∀ {l m : List α}, l.Nodup → (∀ x ∈ l, x ∈ m) → l.length ≤ m.length
  | [], _, _, _ => Nat.zero_le _
  | x :: l, m, h, hs => by
    have h' := List.nodup_cons.mp h
    have hx := hs x (List.mem_cons_self ..)
    have ih := nodup_le (l := l) (m := m.erase x) h'.2 fun y hy => (List.mem_erase_of_ne (fun z => h'.1 (by rw [← z]; exact hy))).mpr (hs y (List.mem_cons_of_mem _ hy))
    rw [List.length_erase_of_mem hx] at ih
    have : 1 ≤ m.length := by
      cases m with
      | nil => cases hx
      | cons _ _ => simp
    rw [List.length_cons]
    omega
theorem Laying.few {wide high : Nat} {units : List Int} {rows : List (List CellM)} {nms : List Str} (l : Laying wide high units rows nms) : (namesOf rows).length ≤ nms.length + 1 := by
  have := nodup_le (m := blank :: nms) l.nd fun x hx => by
    rcases l.sub x hx with e | e
    · rw [e]; exact List.mem_cons_self ..
    · exact List.mem_cons_of_mem _ e
  simpa using this
theorem get_set {α : Type} {l : List α} {i k : Nat} {v r : α} (h : (l.set i v)[k]? = some r) : (k = i ∧ r = v) ∨ (k ≠ i ∧ l[k]? = some r) := by
  by_cases e : k = i
  · subst e
    have hl : k < (l.set k v).length := (List.getElem?_eq_some_iff.mp h).1
    rw [List.length_set] at hl
    rw [List.getElem?_set_self hl] at h
    exact .inl ⟨rfl, (Option.some.inj h).symm⟩
  · rw [List.getElem?_set_ne (Ne.symm e)] at h
    exact .inr ⟨e, h⟩
theorem Laying.put {wide high : Nat} {units : List Int} {rows : List (List CellM)} {nms : List Str} (l : Laying wide high units rows nms) {i j : Nat} {row : List CellM} {x : Str} {c : Int} (h : rows[i]? = some row) (h' : row[j]? = some none)
    (hx : IsName x) (hb : x ≠ blank) (hn : x ∉ nms) (hc : c = 0 ∨ c = 1 ∨ c = -1) (hu : ∃ u, units[i]? = some u ∧ 0 < u + c) : Laying wide high units (rows.set i (row.set j (some (x, c)))) (nms ++ [x]) := by
  have P := names_set (x := x) (c := c) h h'
  refine ⟨by rw [List.length_set]; exact l.hr, fun r hr => ?_, fun k m r y d e1 e2 => ?_, ?_, P.mem_iff.mpr (List.mem_cons_of_mem _ l.bl), fun y hy => ?_⟩
  · rcases List.mem_or_eq_of_mem_set hr with e | e
    · exact l.hw r e
    · rw [e, List.length_set]
      exact l.hw row (List.mem_of_getElem? h)
  · rcases get_set e1 with ⟨rfl, rfl⟩ | ⟨_, e1⟩
    · rcases get_set e2 with ⟨rfl, e⟩ | ⟨_, e2⟩
      · simp only [Option.some.injEq, Prod.mk.injEq] at e
        obtain ⟨rfl, rfl⟩ := e
        exact .inr ⟨hx, hc, hu⟩
      · exact l.cell k m row y d h e2
    · exact l.cell k m r y d e1 e2
  · refine P.nodup_iff.mpr (List.nodup_cons.mpr ⟨fun z => ?_, l.nd⟩)
    rcases l.sub x z with e | e
    · exact hb e
    · exact hn e
  · rcases List.mem_cons.mp (P.mem_iff.mp hy) with e | e
    · exact .inr (by rw [e]; simp)
    · rcases l.sub y e with e | e
      · exact .inl e
      · exact .inr (List.mem_append_left _ e)
theorem runs_seq {g1 g2 : SS} {ρ ρ1 : En} {S S1 : Sto} {r : Fl} (h1 : g1 ρ S = .nx ρ1 S1) (h2 : g2 ρ1 S1 = r) : sSeq g1 g2 ρ S = r := by rw [e_seq, h1, e_then_nx, h2]
theorem fn_rt {n : Nat} {g : SS} {ts : List T} {S S' : Sto} {t : T} (h : g (start0 n ts) S = .rt t S') : fnL n g ts S = .ok t S' := by rw [e_fn, h]
theorem fn_nx {n : Nat} {g : SS} {ts : List T} {S S' : Sto} {ρ' : En} (h : g (start0 n ts) S = .nx ρ' S') : fnL n g ts S = .ok (.val .none) S' := by rw [e_fn, h]
/-! ### texts -/
theorem cutS_list {x : Str} {lo hi : Option Int} : (cutS x lo hi).cps.toList = cutD x.cps.toList lo hi := by
  unfold cutS cutD
  rw [str_len]
theorem cutD_mem {α : Type} {xs : List α} {lo hi : Option Int} {c : α} (h : c ∈ cutD xs lo hi) : c ∈ xs := by
  unfold cutD at h
  exact List.mem_of_mem_drop (List.mem_of_mem_take h)
theorem cutD_from {α : Type} {xs : List α} {f : Nat} (h : f ≤ xs.length) : (cutD xs (some (f : Int)) none) = xs.drop f := by
  unfold cutD
  rw [HT.sIx_nat, HT.sIx_none, Nat.min_eq_left h, List.take_of_length_le (by rw [List.length_drop]; omega)]
theorem cutD_to {α : Type} {xs : List α} {f : Nat} : (cutD xs none (some (f : Int))) = xs.take (min f xs.length) := by
  unfold cutD
  rw [HT.sIx_nat, HT.sIx_none, List.drop_zero, Nat.sub_zero]
@[simp] theorem g_sl_s {x : Str} {lo hi : Option Int} : gSl (.str x) lo hi = some (.val (.str (cutS x lo hi))) := rfl
@[simp] theorem g_sl_l {xs : List D} {lo hi : Option Int} : gSl (.list xs) lo hi = some (.own (cutD xs lo hi)) := rfl
@[simp] theorem g_sl_t {xs : List D} {lo hi : Option Int} : gSl (.tuple xs) lo hi = some (.val (.tuple (cutD xs lo hi))) := rfl
def abc : Str := "abcdefghijklmnopqrstuvwxyz"
theorem abc_len : abc.length = 26 := by decide +kernel
theorem abc_mem : ∀ c ∈ abc.cps.toList, 97 ≤ c ∧ c ≤ 122 := by decide +kernel
theorem letters_ok {f q : Nat} (hf : f ≤ 26) (hq : 1 ≤ q) (hq2 : q ≤ 26) :
    (cutS abc (some (f : Int)) none).length + (cutS abc none (some (f : Int))).length = 26 ∧
    (cutS (cutS abc (some (f : Int)) none ++ cutS abc none (some (f : Int))) none (some (q : Int))).length = q ∧
    ∀ c ∈ (cutS (cutS abc (some (f : Int)) none ++ cutS abc none (some (f : Int))) none (some (q : Int))).cps.toList, 97 ≤ c ∧ c ≤ 122 := by
  have hl : abc.cps.toList.length = 26 := by rw [str_len, abc_len]
  have e1 : (cutS abc (some (f : Int)) none).length = 26 - f := by
    rw [← str_len, cutS_list, cutD_from (by rw [hl]; exact hf), List.length_drop, hl]
  have e2 : (cutS abc none (some (f : Int))).length = f := by
    rw [← str_len, cutS_list, cutD_to, List.length_take, hl]
    omega
  refine ⟨by rw [e1, e2]; omega, ?_, fun c hc => ?_⟩
  · rw [← str_len, cutS_list, cutD_to, List.length_take, str_len, length_append_str, e1, e2]
    omega
  · rw [cutS_list] at hc
    have := cutD_mem hc
    rw [cps_append] at this
    rcases List.mem_append.mp this with h | h
    · rw [cutS_list] at h
      exact abc_mem c (cutD_mem h)
    · rw [cutS_list] at h
      exact abc_mem c (cutD_mem h)
end BV
/-! The laws' builder: the case. -/
namespace BV
open PySem L2

def g_law_case : SS := sSeq (sAsg 2 (cBin gAdd (cC (.int 2)) (cCall sem_law_take (aCons (cVar 0) (aCons (cBin gIx (cList (aCons (cC (.int 4)) (aCons (cC (.int 14)) aNil))) (cVarU 1)) aNil)))))
    (sSeq (sAsg 3 (cBin gAdd (cC (.int 2)) (cCall sem_law_take (aCons (cVar 0) (aCons (cBin gIx (cList (aCons (cC (.int 4)) (aCons (cC (.int 14)) aNil))) (cVarU 1)) aNil)))))
    (sSeq (sAsg 4 (cC (.str "abcdefghijklmnopqrstuvwxyz")))
    (sSeq (sAsg 5 (cCall sem_law_take (aCons (cVar 0) (aCons (cC (.int 26)) aNil))))
    (sSeq (sAsg 4 (cBin gAdd (cSl (cVarU 4) (cPart (cVarU 5)) cNoPart) (cSl (cVarU 4) cNoPart (cPart (cVarU 5)))))
    (sSeq (sAsg 4 (cSl (cVarU 4) cNoPart (cPart (cBin gIx (cList (aCons (cC (.int 3)) (aCons (cC (.int 4)) (aCons (cC (.int 6)) (aCons (cC (.int 26)) aNil))))) (cCall sem_law_take (aCons (cVar 0) (aCons (cC (.int 4)) aNil)))))))
    (sSeq (sAsg 6 (cLc (cRng gRng1 (uCons (cVarU 3) uNil)) (bName 14) bYes (cBin gAdd (cC (.int 1)) (cCall sem_law_take (aCons (cVar 0) (aCons (cC (.int 30)) aNil)))) [14]))
    (sSeq (sAsg 7 (cLc2 (cRng gRng1 (uCons (cVarU 3) uNil)) (bName 14) bYes (cBin gMul (cList (aCons (cC .none) aNil)) (cVarU 2)) [14]))
    (sSeq (sAsg 8 (cCall sem_law_take (aCons (cVar 0) (aCons (cBin gMul (cVarU 2) (cVarU 3)) aNil))))
    (sSeq (sSet2 7 (cBin gDiv (cVarU 8) (cVarU 2)) (cBin gMod (cVarU 8) (cVarU 2)) (cTup (aCons (cC (.str " ")) (aCons (cC (.int 0)) aNil))))
    (sSeq (sAsg 9 (cList aNil))
    (sSeq (sFor (cRng gRng1 (uCons (cBin gAdd (cC (.int 1)) (cCall sem_law_take (aCons (cVar 0) (aCons (cBin gIx (cList (aCons (cC (.int 10)) (aCons (cC (.int 30)) aNil))) (cVarU 1)) aNil)))) uNil)) (bName 10)
    (sSeq (sAsg 11 (cCall sem_law_take (aCons (cVar 0) (aCons (cBin gMul (cVarU 2) (cVarU 3)) aNil))))
    (sSeq (sAsg 12 (cCall sem_law_name (aCons (cVar 0) (aCons (cVar 4) aNil))))
    (sSeq (sAsg 13 (cBin gIx (cList (aCons (cC (.int 0)) (aCons (cC (.int 0)) (aCons (cC (.int 1)) (aCons (cUn gNeg (cC (.int 1))) aNil))))) (cCall sem_law_take (aCons (cVar 0) (aCons (cC (.int 4)) aNil)))))
    (sSeq (sAsg 14 (cBin gDiv (cVarU 11) (cVarU 2)))
    (sIf (bAnd (cB (cUn gIsN (cBin gIx (cIx2 7 (cVarU 14)) (cBin gMod (cVarU 11) (cVarU 2))))) (bAnd (cB (cBin (gIn true) (cVarU 12) (cVarU 9))) (cB (cBin gGt (cBin gAdd (cBin gIx (cVarU 6) (cVarU 14)) (cVarU 13)) (cC (.int 0)))))) (sSeq (sSet2 7 (cVarU 14) (cBin gMod (cVarU 11) (cVarU 2)) (cTup (aCons (cVar 12) (aCons (cVar 13) aNil))))
    (sLM 9 mAppend (aCons (cVar 12) aNil) kDrop)) sSkip))))))
    (sFz 7 (sRet (cTup (aCons (cB1 gTuple (uCons (cVarU 6) uNil)) (aCons (cB1 gTuple (uCons (cLc (cSeq (cVarU 7)) (bName 14) bYes (cB1 gTuple (uCons (cVarU 14) uNil)) [14]) uNil)) aNil))))))))))))))))
def sem_law_case : Fn := fnL 15 g_law_case

def bodyK : SS := (sSeq (sAsg 11 (cCall sem_law_take (aCons (cVar 0) (aCons (cBin gMul (cVarU 2) (cVarU 3)) aNil))))
    (sSeq (sAsg 12 (cCall sem_law_name (aCons (cVar 0) (aCons (cVar 4) aNil))))
    (sSeq (sAsg 13 (cBin gIx (cList (aCons (cC (.int 0)) (aCons (cC (.int 0)) (aCons (cC (.int 1)) (aCons (cUn gNeg (cC (.int 1))) aNil))))) (cCall sem_law_take (aCons (cVar 0) (aCons (cC (.int 4)) aNil)))))
    (sSeq (sAsg 14 (cBin gDiv (cVarU 11) (cVarU 2)))
    (sIf (bAnd (cB (cUn gIsN (cBin gIx (cIx2 7 (cVarU 14)) (cBin gMod (cVarU 11) (cVarU 2))))) (bAnd (cB (cBin (gIn true) (cVarU 12) (cVarU 9))) (cB (cBin gGt (cBin gAdd (cBin gIx (cVarU 6) (cVarU 14)) (cVarU 13)) (cC (.int 0)))))) (sSeq (sSet2 7 (cVarU 14) (cBin gMod (cVarU 11) (cVarU 2)) (cTup (aCons (cVar 12) (aCons (cVar 13) aNil))))
    (sLM 9 mAppend (aCons (cVar 12) aNil) kDrop)) sSkip)))))
/-- rows as own lists -/
def rowsL (rows : List (List CellM)) : List (List D) := rows.map fun r => r.map cellD
/-- the names' state -/
def stC (n : Nat) (great w h : Int) (L : Str) (f : Int) (units : List Int) (rows : List (List CellM)) (bl : Int) (nms : List Str) (x10 x11 x12 x13 x14 : Option T) : En :=
  [some (.cel n), some (.val (.int great)), some (.val (.int w)), some (.val (.int h)), some (.val (.str L)), some (.val (.int f)), some (.own (units.map PyData.int)), some (.own2 (rowsL rows)), some (.val (.int bl)), some (.own (nms.map PyData.str)), x10, x11, x12, x13, x14]
theorem place_ok {p w h : Int} (hw : 0 < w) (hh : 0 < h) (h0 : 0 ≤ p) (h1 : p < w * h) : 0 ≤ p / w ∧ p / w < h ∧ 0 ≤ p % w ∧ p % w < w := by
  refine ⟨Int.ediv_nonneg h0 (by omega), ?_, Int.emod_nonneg _ (by omega), Int.emod_lt_of_pos _ hw⟩
  exact Int.ediv_lt_of_lt_mul hw (by rw [Int.mul_comm]; exact h1)
@[simp] theorem e_ix2s {i : Nat} {fa fb fv : SE} {ρ : En} {S : Sto} : sSet2 i fa fb fv ρ S = sE fv (fun t ρ S => match asD t with
  | none => .bad
  | some d => match ρ[i]? with
    | some (some (.own2 xss)) => sD fa (fun da ρ S => match da with
      | .int j => (match ixN xss.length j with
        | some k => (match xss[k]? with
          | some xs => sD fb (fun db ρ S => match db with
            | .int l => (match ixN xs.length l with | some m => .nx (ρ.set i (some (.own2 (xss.set k (xs.set m d))))) S | none => .bad)
            | _ => .bad) ρ S
          | none => .bad)
        | none => .bad)
      | _ => .bad) ρ S
    | _ => .bad) ρ S := rfl
@[simp] theorem e_sLM {i : Nat} {m : List D → List D → Option (List D × D)} {fs : SA} {k : D → En → Sto → Fl} {ρ : En} {S : Sto} : sLM i m fs k ρ S = (match ρ[i]? with
  | some (some (.own xs)) => sA fs (fun ts ρ S => match allD ts with
    | some ds => (match m xs ds with | some (xs', d) => k d (ρ.set i (some (.own xs'))) S | none => .bad)
    | none => .bad) ρ S
  | _ => .bad) := rfl
theorem rowsL_get {rows : List (List CellM)} {i : Nat} {r : List CellM} (h : rows[i]? = some r) : (rowsL rows)[i]? = some (r.map cellD) := by
  unfold rowsL
  rw [List.getElem?_map, h]
  rfl
theorem rowsL_len {rows : List (List CellM)} : (rowsL rows).length = rows.length := by unfold rowsL; rw [List.length_map]
theorem rowsL_set {rows : List (List CellM)} {i j : Nat} {r : List CellM} {c : CellM} : (rowsL rows).set i ((r.map cellD).set j (cellD c)) = rowsL (rows.set i (r.set j c)) := by
  unfold rowsL
  rw [List.map_set, List.map_set]
theorem isNone_cell {c : CellM} : isNone (cellD c) = c.isNone := by
  cases c with
  | none => rfl
  | some p => obtain ⟨x, i⟩ := p; rfl
theorem flat_strs (nms : List Str) : (nms.map PyData.str).all flatD = true := by
  rw [List.all_map]
  exact List.all_eq_true.mpr fun x _ => rfl
theorem any_strs {x : Str} : ∀ (nms : List Str), ((nms.map PyData.str).any fun d => PyData.eqv d (.str x)) = decide (x ∈ nms)
  | [] => by simp
  | y :: nms => by
    have ih := any_strs (x := x) nms
    rw [List.map_cons, List.any_cons, ih]
    have : PyData.eqv (.str y) (.str x) = decide (y = x) := by
      simp [PyData.eqv]
      try rfl
    rw [this, Bool.eq_iff_iff]
    simp only [Bool.or_eq_true, decide_eq_true_eq, List.mem_cons]
    exact ⟨fun h => h.imp Eq.symm id, fun h => h.imp Eq.symm id⟩
theorem notIn_strs {x : Str} {nms : List Str} : gIn true (.str x) (.list (nms.map PyData.str)) = some (.val (.bool (!decide (x ∈ nms)))) := by
  show (if (flatD (.str x) && (nms.map PyData.str).all flatD) || _ then _ else _) = _
  rw [flat_strs, any_strs]
  rfl
/-- one turn -/
theorem turn_spec {S : Sto} {n m : Nat} {great w h f bl : Int} {L : Str} {units : List Int} {rows : List (List CellM)} {nms : List Str} {x10 x11 x12 x13 x14 : Option T} (hb : HasBag S n m) (hm : m ≤ 10000000) (hw : 2 ≤ w) (hw2 : w ≤ 15) (hh : 2 ≤ h) (hh2 : h ≤ 15)
    (hL : 1 ≤ L.length) (hL2 : L.length ≤ 26) (hL3 : ∀ c ∈ L.cps.toList, 97 ≤ c ∧ c ≤ 122) (hu : (units.length : Int) = h) (hn : nms.length ≤ 1000) (lay : Laying w.toNat h.toNat units rows nms) :
    ∃ y11 y12 y13 y14 rows' nms' S', bodyK (stC n great w h L f units rows bl nms x10 x11 x12 x13 x14) S = .nx (stC n great w h L f units rows' bl nms' x10 y11 y12 y13 y14) S' ∧ HasBag S' n (m + 6) ∧ Ext n S S' ∧ Laying w.toNat h.toNat units rows' nms' ∧ nms'.length ≤ nms.length + 1 := by
  have mul1 : gMul (.int w) (.int h) = some (.val (.int (w * h))) := g_mul_i (by
    have h1 : w.natAbs.log2 ≤ 12 := log2_le (by omega)
    have h2 : h.natAbs.log2 ≤ 12 := log2_le (by omega)
    omega)
  have wh0 : 0 < w * h := Int.mul_pos (by omega) (by omega)
  have wh1 : w * h < 2 ^ 60 := by
    have : w * h ≤ 15 * 15 := Int.mul_le_mul hw2 hh2 (by omega) (by omega)
    omega
  obtain ⟨p, S1, e1, p0, p1, hb1, x1⟩ := draw (k := w * h) hb (by omega) wh0 wh1
  obtain ⟨x, S2, e2, nx, hb2, x2⟩ := name_spec (L := L) hb1 (by omega) hL (by omega)
  obtain ⟨r, S3, e3, r0, r1, hb3, x3⟩ := draw (k := 4) hb2 (by omega) (by decide) (by decide)
  obtain ⟨c, ec, hc⟩ : ∃ c : Int, atI [PyData.int 0, PyData.int 0, PyData.int 1, PyData.int (-1)] r = some (.int c) ∧ (c = 0 ∨ c = 1 ∨ c = -1) := by
    have : r = 0 ∨ r = 1 ∨ r = 2 ∨ r = 3 := by omega
    rcases this with h | h | h | h <;> subst h
    · exact ⟨0, rfl, .inl rfl⟩
    · exact ⟨0, rfl, .inl rfl⟩
    · exact ⟨1, rfl, .inr (.inl rfl)⟩
    · exact ⟨-1, rfl, .inr (.inr rfl)⟩
  obtain ⟨q1, q2, q3, q4⟩ := place_ok (p := p) (w := w) (h := h) (by omega) (by omega) p0 p1
  have dw : gDiv (.int p) (.int w) = some (.val (.int (p / w))) := g_div_i (by omega) (by
    have : w.natAbs.log2 ≤ 12 := log2_le (by omega)
    omega)
  have mw : gMod (.int p) (.int w) = some (.val (.int (p % w))) := mod_ok (by omega)
  generalize eq1 : p / w = i at *
  generalize eq2 : p % w = j at *
  have hi : i.toNat < rows.length := by rw [lay.hr]; omega
  have er : rows[i.toNat]? = some rows[i.toNat] := List.getElem?_eq_getElem hi
  generalize eqr : rows[i.toNat] = row at er
  have hrow : row.length = w.toNat := lay.hw row (List.mem_of_getElem? er)
  have hj : j.toNat < row.length := by rw [hrow]; omega
  have ej : row[j.toNat]? = some row[j.toNat] := List.getElem?_eq_getElem hj
  generalize eqj : row[j.toNat] = cl at ej
  have hui : i.toNat < units.length := by omega
  have eu : units[i.toNat]? = some units[i.toNat] := List.getElem?_eq_getElem hui
  generalize equ : units[i.toNat] = u at eu
  have a1 : atI (rowsL rows) i = some (row.map cellD) := atI_of q1 (rowsL_get er)
  have a2 : atI (row.map cellD) j = some (cellD cl) := atI_of q3 (by rw [List.getElem?_map, ej]; rfl)
  have a3 : atI (units.map PyData.int) i = some (.int u) := atI_of q1 (by rw [List.getElem?_map, eu]; rfl)
  have i1 : ixN rows.length i = some i.toNat := ixN_pos q1 (by omega)
  have i2 : ixN row.length j = some j.toNat := ixN_pos q3 (by omega)
  have xs : Ext n S S3 := (x1.trans x2).trans x3
  have hx : IsName x := ⟨nx.pos, nx.most, fun c hc => hL3 c (nx.all c hc)⟩
  have xb : x ≠ blank := fun z => by
    have : (32 : Nat) ∈ x.cps.toList := by rw [z]; decide +kernel
    have := hx.all 32 this
    omega
  by_cases hcond : cl = none ∧ x ∉ nms ∧ 0 < u + c
  · obtain ⟨rfl, hn2, hpos⟩ := hcond
    refine ⟨some (.val (.int p)), some (.val (.str x)), some (.val (.int c)), some (.val (.int i)), rows.set i.toNat (row.set j.toNat (some (x, c))), nms ++ [x], S3, ?_, hb3.mono (by omega), xs, lay.put er ej hx xb hn2 hc ⟨u, eu, hpos⟩, by simp⟩
    have z : (PyData.tuple [.str x, .int c]) = cellD (some (x, c)) := rfl
    have hlen : nms.length < sizeLine := Nat.lt_of_lt_of_le (show nms.length < 100000 by omega) (by decide)
    have ap : mAppend (nms.map PyData.str) [.str x] = some ((nms ++ [x]).map PyData.str, .none) := by
      show (if _ then _ else _) = _
      rw [if_pos (by rw [List.length_map]; exact hlen), List.map_append]
      rfl
    unfold bodyK stC
    refine runs_seq (by simp [mul1, e1]; exact ⟨rfl, rfl⟩) ?_
    refine runs_seq (by simp [e2]; exact ⟨rfl, rfl⟩) ?_
    refine runs_seq (by simp [e3, ec]; exact ⟨rfl, rfl⟩) ?_
    refine runs_seq (by simp [dw]; exact ⟨rfl, rfl⟩) ?_
    simp [mw, a1, a2, a3, notIn_strs, hn2, hpos, rowsL_len, i1, rowsL_get er, i2, ap, isNone_cell, z, rowsL_set]
  · refine ⟨some (.val (.int p)), some (.val (.str x)), some (.val (.int c)), some (.val (.int i)), rows, nms, S3, ?_, hb3.mono (by omega), xs, lay, by omega⟩
    unfold bodyK stC
    refine runs_seq (by simp [mul1, e1]; exact ⟨rfl, rfl⟩) ?_
    refine runs_seq (by simp [e2]; exact ⟨rfl, rfl⟩) ?_
    refine runs_seq (by simp [e3, ec]; exact ⟨rfl, rfl⟩) ?_
    refine runs_seq (by simp [dw]; exact ⟨rfl, rfl⟩) ?_
    by_cases h1 : cl = none
    · by_cases h2 : x ∈ nms
      · simp [mw, a1, a2, a3, notIn_strs, h1, h2, isNone_cell]
      · have h3 : ¬ 0 < u + c := fun z => hcond ⟨h1, h2, z⟩
        simp [mw, a1, a2, a3, notIn_strs, h1, h2, h3, isNone_cell]
    · have h1' : cl.isNone = false := by cases cl with
        | none => exact absurd rfl h1
        | some _ => rfl
      simp [mw, a1, a2, a3, h1', isNone_cell]
end BV
/-! The laws' builder: the case, whole. -/
namespace BV
open PySem L2

@[simp] theorem e_lc {src : SI} {b : BT1} {tt : SB} {elt : SE} {vs : List Nat} {ρ : En} {S : Sto} : cLc src b tt elt vs ρ S = R.l (src ρ S) fun ds S1 => R.l (lcM b tt elt (wipeE ρ vs) ds S1) fun xs S2 => .ok (.own xs) S2 := rfl
@[simp] theorem e_lc2 {src : SI} {b : BT1} {tt : SB} {elt : SE} {vs : List Nat} {ρ : En} {S : Sto} : cLc2 src b tt elt vs ρ S = R.l (src ρ S) fun ds S1 => R.l (lcM2 b tt elt (wipeE ρ vs) ds S1) fun xs S2 => .ok (.own2 xs) S2 := rfl
@[simp] theorem e_bYes {ρ : En} {S : Sto} : bYes ρ S = .ok true S := rfl
@[simp] theorem e_wipe0 {ρ : En} : wipeE ρ [] = ρ := rfl
@[simp] theorem e_wipe {ρ : En} {v : Nat} {vs : List Nat} : wipeE ρ (v :: vs) = (wipeE ρ vs).set v none := rfl
theorem range_len {lo : Int} {n : Nat} : (rangeL lo n).length = n := by unfold rangeL; simp
theorem ix_two {a b g : Int} (hg : g = 0 ∨ g = 1) : atI [PyData.int a, PyData.int b] g = some (.int (if g = 0 then a else b)) := by
  rcases hg with h | h <;> subst h <;> rfl
/-- a comprehension of data without tests, item by item -/
def unL : D → D
  | .list xs => .tuple xs
  | x => x
theorem lcM_map {b : BT1} {elt : SE} {ρ : En} {S : Sto} (f : D → D) : ∀ (ds : List D), (∀ d ∈ ds, ∃ ρ1 t, b d ρ = some ρ1 ∧ elt ρ1 S = .ok t S ∧ asD t = some (f d)) → lcM b bYes elt ρ ds S = .ok (ds.map f) S
  | [], _ => rfl
  | d :: ds, h => by
    obtain ⟨ρ1, t, e1, e2, e3⟩ := h d (List.mem_cons_self ..)
    have ih := lcM_map f ds fun d hd => h d (List.mem_cons_of_mem _ hd)
    unfold lcM
    simp only [e1, e_bYes, e2, e3, ih, e_l_ok, List.map_cons]
theorem g_rep {xs : List D} {k : Nat} (h : k < 2 ^ 60) (h2 : xs.length * k ≤ sizeLine) : gMul (.list xs) (.int (k : Int)) = some (.own (List.replicate k xs).flatten) := by
  have hc : smallI (k : Int) = true ∧ xs.length * (k : Int).toNat ≤ sizeLine := ⟨smallI_of (by omega) (by omega), by rw [Int.toNat_natCast]; exact h2⟩
  simp only [gMul]
  rw [if_pos hc, Int.toNat_natCast]
theorem flat_one {α : Type} (x : α) : ∀ k : Nat, (List.replicate k [x]).flatten = List.replicate k x
  | 0 => rfl
  | k + 1 => by rw [List.replicate_succ, List.flatten_cons, flat_one x k]; rfl
theorem units_spec {S : Sto} {n m h : Nat} {ρ : En} (hρ : ρ[0]? = some (some (.cel n))) (hb : HasBag S n m) (hm : m ≤ 10000000) (hh : h ≤ 100) :
    ∃ (units : List Int) (S' : Sto), lcM (bName 14) bYes (cBin gAdd (cC (.int 1)) (cCall sem_law_take (aCons (cVar 0) (aCons (cC (.int 30)) aNil)))) ρ (rangeL 0 h) S = .ok (units.map PyData.int) S' ∧ units.length = h ∧ (∀ u ∈ units, 1 ≤ u ∧ u ≤ 30) ∧ HasBag S' n (m + h) ∧ Ext n S S' := by
  obtain ⟨us, S5, e5, units, rfl, ul, uok, hb5, x5⟩ := lcM_inv (b := bName 14) (tt := bYes) (elt := cBin gAdd (cC (.int 1)) (cCall sem_law_take (aCons (cVar 0) (aCons (cC (.int 30)) aNil)))) (ρ := ρ)
    (fun i ys S' => ∃ units : List Int, ys = units.map PyData.int ∧ units.length = i ∧ (∀ u ∈ units, 1 ≤ u ∧ u ≤ 30) ∧ HasBag S' n (m + i) ∧ Ext n S S') (rangeL 0 h) 0 [] S ⟨[], rfl, rfl, (by simp), hb, Ext.refl⟩ (by
      rintro i d ys S6 hd ⟨units, rfl, hul, hu, hb6, x6⟩
      obtain ⟨hi, rfl⟩ := range_get hd
      obtain ⟨s, S7, e7, s0, s1, hb7, x7⟩ := draw (k := 30) hb6 (by omega) (by decide) (by decide)
      refine ⟨_, rfl, .inr ⟨S6, .val (.int (1 + s)), S7, .int (1 + s), rfl, ?_, rfl, units ++ [1 + s], by rw [List.map_append]; rfl, by rw [List.length_append, hul]; rfl, fun u hu' => ?_, hb7, x6.trans x7⟩⟩
      · have : (ρ.set 14 (some (.val (.int (0 + (i : Int))))))[0]? = some (some (.cel n)) := by rw [List.getElem?_set_ne (by decide)]; exact hρ
        simp [hρ, e7]
      · rcases List.mem_append.mp hu' with h | h
        · exact hu u h
        · simp at h; omega)
  rw [range_len, Nat.zero_add] at ul hb5
  exact ⟨units, S5, e5, ul, uok, hb5, x5⟩
theorem rows_spec {S : Sto} {w h : Nat} {ρ : En} (hρ : ρ[2]? = some (some (.val (.int (w : Int))))) (hw : w ≤ 100) :
    lcM2 (bName 14) bYes (cBin gMul (cList (aCons (cC .none) aNil)) (cVarU 2)) ρ (rangeL 0 h) S = .ok (rowsL (List.replicate h (List.replicate w (none : CellM)))) S := by
  have rp : gMul (.list [PyData.none]) (.int (w : Int)) = some (.own (List.replicate w PyData.none)) := by
    rw [g_rep (by omega) (le_line (by simp; omega)), flat_one]
  obtain ⟨xss, S6, e6, hx6, rfl⟩ := lcM2_inv (b := bName 14) (tt := bYes) (elt := cBin gMul (cList (aCons (cC .none) aNil)) (cVarU 2)) (ρ := ρ)
    (fun i ys S' => ys = List.replicate i (List.replicate w PyData.none) ∧ S' = S) (rangeL 0 h) 0 [] S ⟨rfl, rfl⟩ (by
      rintro i d ys S6 hd ⟨rfl, rfl⟩
      refine ⟨_, rfl, .inr ⟨S6, S6, List.replicate w PyData.none, rfl, ?_, by rw [Nat.zero_add, List.replicate_succ'], rfl⟩⟩
      have : (ρ.set 14 (some (.val d)))[2]? = some (some (.val (.int (w : Int)))) := by rw [List.getElem?_set_ne (by decide)]; exact hρ
      simp [hρ, rp])
  rw [range_len, Nat.zero_add, List.nil_append] at hx6
  subst hx6
  have : List.replicate h (List.replicate w PyData.none) = rowsL (List.replicate h (List.replicate w (none : CellM))) := by
    unfold rowsL
    rw [List.map_replicate, List.map_replicate]
    rfl
  rw [e6, this]
theorem lay_first {w h i j : Nat} {units : List Int} (hi : i < h) (hj : j < w) : Laying w h units ((List.replicate h (List.replicate w (none : CellM))).set i ((List.replicate w none).set j (some (blank, 0)))) [] := by
  have er : (List.replicate h (List.replicate w (none : CellM)))[i]? = some (List.replicate w none) := by rw [List.getElem?_replicate, if_pos hi]
  have ej : (List.replicate w (none : CellM))[j]? = some none := by rw [List.getElem?_replicate, if_pos hj]
  have nm0 : namesOf (List.replicate h (List.replicate w (none : CellM))) = [] := by
    unfold namesOf
    apply List.filterMap_eq_nil_iff.mpr
    intro c hc
    obtain ⟨l, hl, hc⟩ := List.mem_flatten.mp hc
    rw [(List.mem_replicate.mp hl).2] at hc
    rw [(List.mem_replicate.mp hc).2]
    rfl
  have P := names_set (x := blank) (c := 0) er ej
  rw [nm0] at P
  have P1 := List.perm_singleton.mp P
  refine ⟨by rw [List.length_set, List.length_replicate], fun r hr => ?_, fun a b r x c e1 e2 => ?_, by rw [P1]; simp, by rw [P1]; simp, fun x hx => .inl (by rw [P1] at hx; simpa using hx)⟩
  · rcases List.mem_or_eq_of_mem_set hr with h | h
    · rw [(List.mem_replicate.mp h).2, List.length_replicate]
    · rw [h, List.length_set, List.length_replicate]
  · rcases get_set e1 with ⟨_, rfl⟩ | ⟨_, e1⟩
    · rcases get_set e2 with ⟨_, e⟩ | ⟨_, e2⟩
      · simp only [Option.some.injEq, Prod.mk.injEq] at e
        exact .inl e
      · have := List.mem_of_getElem? e2
        rw [List.mem_replicate] at this
        cases this.2
    · have h1 := List.mem_of_getElem? e1
      rw [List.mem_replicate] at h1
      rw [h1.2] at e2
      have := List.mem_of_getElem? e2
      rw [List.mem_replicate] at this
      cases this.2
theorem turns_spec {S : Sto} {n m cn w h : Nat} {great f bl : Int} {L : Str} {units : List Int} {rows : List (List CellM)} (hb : HasBag S n m) (hm : m ≤ 5000000) (hc : cn ≤ 1000) (hw : 2 ≤ w) (hw2 : w ≤ 15) (hh : 2 ≤ h) (hh2 : h ≤ 15)
    (hL : 1 ≤ L.length) (hL2 : L.length ≤ 26) (hL3 : ∀ c ∈ L.cps.toList, 97 ≤ c ∧ c ≤ 122) (hu : units.length = h) (lay : Laying w h units rows []) :
    ∃ rows' nms' y10 y11 y12 y13 y14 S', forL (bName 10) bodyK (rangeL 0 cn) (stC n great w h L f units rows bl [] none none none none none) S = .nx (stC n great w h L f units rows' bl nms' y10 y11 y12 y13 y14) S' ∧ HasBag S' n (m + 6 * cn) ∧ Ext n S S' ∧ Laying w h units rows' nms' ∧ nms'.length ≤ cn := by
  obtain ⟨ρ9, S9, e9, rows, nms, y10, y11, y12, y13, y14, rfl, hb9, x9, lay9, hn9⟩ := forL_inv (b := bName 10) (body := bodyK)
    (fun t ρ S' => ∃ (rows : List (List CellM)) (nms : List Str) (y10 y11 y12 y13 y14 : Option T), ρ = stC n great w h L f units rows bl nms y10 y11 y12 y13 y14 ∧ HasBag S' n (m + 6 * t) ∧ Ext n S S' ∧ Laying w h units rows nms ∧ nms.length ≤ t)
    (rangeL 0 cn) 0 (stC n great w h L f units rows bl [] none none none none none) S ⟨rows, [], none, none, none, none, none, rfl, hb, Ext.refl, lay, Nat.le_refl _⟩ (by
      rintro t d ρ S10 hd ⟨rows, nms, y10, y11, y12, y13, y14, rfl, hb10, x10, lay, hn⟩
      obtain ⟨ht, rfl⟩ := range_get hd
      obtain ⟨z11, z12, z13, z14, rows', nms', S11, e11, hb11, x11, lay', hn'⟩ := turn_spec (great := great) (w := w) (h := h) (f := f) (bl := bl) (L := L) (units := units) (rows := rows) (nms := nms) (x10 := some (.val (.int (0 + (t : Int))))) (x11 := y11) (x12 := y12) (x13 := y13) (x14 := y14) hb10 (by omega) (by omega) (by omega) (by omega) (by omega) hL hL2 hL3 (by omega) (by omega) (by simpa using lay)
      refine ⟨stC n great w h L f units rows bl nms (some (.val (.int (0 + (t : Int))))) y11 y12 y13 y14, rfl, _, S11, .inl e11, rows', nms', _, z11, z12, z13, z14, rfl, hb11.mono (by omega), x10.trans x11, by simpa using lay', by omega⟩)
  rw [range_len, Nat.zero_add] at hb9 hn9
  exact ⟨rows, nms, y10, y11, y12, y13, y14, S9, e9, hb9, x9, lay9, hn9⟩
/-- the last line: lists become tuples -/
theorem end_spec {S : Sto} {n : Nat} {great w h f bl : Int} {L : Str} {units : List Int} {rows : List (List CellM)} {nms : List Str} {y10 y11 y12 y13 y14 : Option T} :
    sFz 7 (sRet (cTup (aCons (cB1 gTuple (uCons (cVarU 6) uNil)) (aCons (cB1 gTuple (uCons (cLc (cSeq (cVarU 7)) (bName 14) bYes (cB1 gTuple (uCons (cVarU 14) uNil)) [14]) uNil)) aNil)))) (stC n great w h L f units rows bl nms y10 y11 y12 y13 y14) S = .rt (.val (caseD units rows)) S := by
  have e1 := lcM_map (b := bName 14) (elt := cB1 gTuple (uCons (cVarU 14) uNil)) (S := S)
    (ρ := [some (.cel n), some (.val (.int great)), some (.val (.int w)), some (.val (.int h)), some (.val (.str L)), some (.val (.int f)), some (.own (units.map PyData.int)), some (.val (.list ((rowsL rows).map PyData.list))), some (.val (.int bl)), some (.own (nms.map PyData.str)), y10, y11, y12, y13, none])
    unL ((rowsL rows).map PyData.list) (by
      intro d hd
      obtain ⟨r, hr, rfl⟩ := List.mem_map.mp hd
      exact ⟨_, .val (.tuple r), rfl, by simp, rfl⟩)
  have e2 : ((rowsL rows).map PyData.list).map unL = rows.map rowD := by
    unfold rowsL
    rw [List.map_map, List.map_map]
    rfl
  rw [e2] at e1
  simp [stC, e1, caseD]
theorem case_spec {S : Sto} {n m : Nat} {great : Int} (hb : HasBag S n m) (hm : m ≤ 1000000) (hg : great = 0 ∨ great = 1) :
    ∃ (w h : Nat) (units : List Int) (rows : List (List CellM)) (S' : Sto), sem_law_case [.cel n, .val (.int great)] S = .ok (.val (caseD units rows)) S' ∧ HasBag S' n (m + 300) ∧ Ext n S S' ∧ CaseOk w h units rows ∧ w ≤ 15 ∧ h ≤ 15 ∧ (great = 0 → w ≤ 5 ∧ h ≤ 5) := by
  have hk : (0 : Int) < (if great = 0 then 4 else 14) ∧ (if great = 0 then (4 : Int) else 14) ≤ 14 := by split <;> constructor <;> decide
  generalize ek : (if great = 0 then (4 : Int) else 14) = k at hk
  have ik : atI [PyData.int 4, PyData.int 14] great = some (.int k) := by rw [ix_two hg, ek]
  obtain ⟨w0, S1, e1, w00, w01, hb1, x1⟩ := draw (k := k) hb (by omega) hk.1 (by omega)
  obtain ⟨h0, S2, e2, h00, h01, hb2, x2⟩ := draw (k := k) hb1 (by omega) hk.1 (by omega)
  obtain ⟨f, S3, e3, f0, f1, hb3, x3⟩ := draw (k := 26) hb2 (by omega) (by decide) (by decide)
  obtain ⟨r, S4, e4, r0, r1, hb4, x4⟩ := draw (k := 4) hb3 (by omega) (by decide) (by decide)
  obtain ⟨q, eq, q1, q2⟩ : ∃ q : Nat, atI [PyData.int 3, PyData.int 4, PyData.int 6, PyData.int 26] r = some (.int (q : Int)) ∧ 1 ≤ q ∧ q ≤ 26 := by
    have : r = 0 ∨ r = 1 ∨ r = 2 ∨ r = 3 := by omega
    rcases this with h | h | h | h <;> subst h
    · exact ⟨3, rfl, by omega, by omega⟩
    · exact ⟨4, rfl, by omega, by omega⟩
    · exact ⟨6, rfl, by omega, by omega⟩
    · exact ⟨26, rfl, by omega, by omega⟩
  obtain ⟨fn, rfl⟩ : ∃ fn : Nat, f = (fn : Int) := ⟨f.toNat, by omega⟩
  obtain ⟨lt1, lt2, lt3⟩ := letters_ok (f := fn) (q := q) (by omega) q1 q2
  have cat : gAdd (.str (cutS abc (some (fn : Int)) none)) (.str (cutS abc none (some (fn : Int)))) = some (.val (.str (cutS abc (some (fn : Int)) none ++ cutS abc none (some (fn : Int))))) := g_add_s (by rw [lt1]; exact le_line (by decide))
  generalize eL : cutS (cutS abc (some (fn : Int)) none ++ cutS abc none (some (fn : Int))) none (some (q : Int)) = L at lt2 lt3
  obtain ⟨w, ew⟩ : ∃ w : Nat, 2 + w0 = (w : Int) := ⟨(2 + w0).toNat, by omega⟩
  obtain ⟨h, eh⟩ : ∃ h : Nat, 2 + h0 = (h : Int) := ⟨(2 + h0).toNat, by omega⟩
  have w2 : 2 ≤ w ∧ w ≤ 15 := by omega
  have h2 : 2 ≤ h ∧ h ≤ 15 := by omega
  have hline : h ≤ sizeLine := le_line (by omega)
  have abcd : (Str.ofString "abcdefghijklmnopqrstuvwxyz") = abc := rfl
  obtain ⟨units, S5, e5, ul, uok, hb5, x5⟩ := units_spec (ρ := [some (.cel n), some (.val (.int great)), some (.val (.int w)), some (.val (.int h)), some (.val (.str L)), some (.val (.int fn)), none, none, none, none, none, none, none, none, none]) (n := n) (h := h) rfl hb4 (by omega) (by omega)
  have e6 := rows_spec (ρ := [some (.cel n), some (.val (.int great)), some (.val (.int w)), some (.val (.int h)), some (.val (.str L)), some (.val (.int fn)), some (.own (units.map PyData.int)), none, none, none, none, none, none, none, none]) (S := S5) (w := w) (h := h) rfl (by omega)
  have mul1 : gMul (.int w) (.int h) = some (.val (.int (w * h))) := g_mul_i (by
    have h1 : (w : Int).natAbs.log2 ≤ 12 := log2_le (by omega)
    have h2 : (h : Int).natAbs.log2 ≤ 12 := log2_le (by omega)
    omega)
  have wh0 : (0 : Int) < w * h := Int.mul_pos (by omega) (by omega)
  have wh1 : (w * h : Int) < 2 ^ 60 := by
    have : (w * h : Int) ≤ 16 * 16 := Int.mul_le_mul (by omega) (by omega) (by omega) (by omega)
    omega
  obtain ⟨p, S7, e7, p0, p1, hb7, x7⟩ := draw (k := (w * h : Int)) hb5 (by omega) wh0 wh1
  obtain ⟨t1, t2, t3, t4⟩ := place_ok (p := p) (w := w) (h := h) (by omega) (by omega) p0 p1
  have dw : gDiv (.int p) (.int w) = some (.val (.int (p / w))) := g_div_i (by omega) (by
    have : (w : Int).natAbs.log2 ≤ 12 := log2_le (by omega)
    omega)
  have mw : gMod (.int p) (.int w) = some (.val (.int (p % w))) := mod_ok (by omega)
  generalize eq1 : p / (w : Int) = i at t1 t2 dw
  generalize eq2 : p % (w : Int) = j at t3 t4 mw
  have i1 : ixN h i = some i.toNat := ixN_pos t1 t2
  have i2 : ixN w j = some j.toNat := ixN_pos t3 t4
  have er : (List.replicate h (List.replicate w (none : CellM)))[i.toNat]? = some (List.replicate w none) := by rw [List.getElem?_replicate, if_pos (by omega)]
  have lay1 := lay_first (w := w) (h := h) (i := i.toNat) (j := j.toNat) (units := units) (by omega) (by omega)
  have hk2 : (0 : Int) < (if great = 0 then 10 else 30) ∧ (if great = 0 then (10 : Int) else 30) ≤ 30 := by split <;> constructor <;> decide
  generalize ek2 : (if great = 0 then (10 : Int) else 30) = k2 at hk2
  have ik2 : atI [PyData.int 10, PyData.int 30] great = some (.int k2) := by rw [ix_two hg, ek2]
  obtain ⟨c0, S8, e8, c00, c01, hb8, x8⟩ := draw (k := k2) hb7 (by omega) hk2.1 (by omega)
  obtain ⟨cn, ecn⟩ : ∃ cn : Nat, 1 + c0 = (cn : Int) := ⟨(1 + c0).toNat, by omega⟩
  have cn2 : cn ≤ 30 := by omega
  have cline : cn ≤ sizeLine := le_line (by omega)
  obtain ⟨rows, nms, y10, y11, y12, y13, y14, S9, e9, hb9, x9, lay9, hn9⟩ := turns_spec (great := great) (f := fn) (bl := p) (L := L) (cn := cn) hb8 (by omega) (by omega) w2.1 w2.2 h2.1 h2.2 (by omega) (by omega) lt3 ul lay1
  refine ⟨w, h, units, rows, S9, ?_, hb9.mono (by omega), ((((((x1.trans x2).trans x3).trans x4).trans x5).trans x7).trans x8).trans x9, ⟨w2.1, h2.1, ul, lay9.hr, lay9.hw, uok, lay9.cell, lay9.nd, lay9.bl, by have := lay9.few; omega⟩, w2.2, h2.2, fun z => by rw [if_pos z] at ek; omega⟩
  clear hb hb1 hb2 hb3 hb4 hb5 hb7 hb8 hb9 x1 x2 x3 x4 x5 x7 x8 x9 lay1 lay9 uok lt3
  unfold sem_law_case
  refine fn_rt ?_
  unfold g_law_case
  simp only [e_start, List.map_cons, List.map_nil, List.length_cons, List.length_nil]
  refine runs_seq (by simp [ik, e1, ew]; exact ⟨rfl, rfl⟩) ?_
  refine runs_seq (by simp [ik, e2, eh]; exact ⟨rfl, rfl⟩) ?_
  refine runs_seq (by simp; exact ⟨rfl, rfl⟩) ?_
  refine runs_seq (by simp [e3]; exact ⟨rfl, rfl⟩) ?_
  refine runs_seq (by simp [abcd, cat]; exact ⟨rfl, rfl⟩) ?_
  refine runs_seq (by simp [e4, eq, eL]; exact ⟨rfl, rfl⟩) ?_
  refine runs_seq (by simp [g_rng1 hline, e5]; exact ⟨rfl, rfl⟩) ?_
  refine runs_seq (by simp [g_rng1 hline, e6]; exact ⟨rfl, rfl⟩) ?_
  refine runs_seq (by simp [mul1, e7]; exact ⟨rfl, rfl⟩) ?_
  have z : (PyData.tuple [.str (Str.ofString " "), .int 0]) = cellD (some (blank, 0)) := rfl
  have z2 : (List.replicate w (none : CellM)).map cellD = List.replicate w .none := by rw [List.map_replicate]; rfl
  refine runs_seq (by simp [dw, mw, rowsL_len, i1, i2, rowsL_get er, z]; exact ⟨rfl, rfl⟩) ?_
  have er2 := rowsL_set (rows := List.replicate h (List.replicate w (none : CellM))) (i := i.toNat) (j := j.toNat) (r := List.replicate w none) (c := some (blank, 0))
  rw [List.map_replicate] at er2
  rw [er2]
  refine runs_seq (by simp; exact ⟨rfl, rfl⟩) ?_
  unfold bodyK stC at e9
  refine runs_seq (by simp [ik2, e8, ecn, g_rng1 cline]; exact e9) ?_
  exact end_spec
end BV
/-! Texts put together; equality of data; plain data. -/
namespace BV
open PySem L2

@[simp] theorem at20 {α : Type} {x y : α} : atI [x, y] 0 = some x := rfl
@[simp] theorem at21 {α : Type} {x y : α} : atI [x, y] 1 = some y := rfl
theorem lcM_filter {b : BT1} {tt : SB} {elt : SE} {ρ : En} {S : Sto} (p : D → Bool) : ∀ (ds : List D), (∀ d ∈ ds, ∃ ρ1, b d ρ = some ρ1 ∧ tt ρ1 S = .ok (p d) S ∧ elt ρ1 S = .ok (.val d) S) → lcM b tt elt ρ ds S = .ok (ds.filter p) S
  | [], _ => rfl
  | d :: ds, h => by
    obtain ⟨ρ1, e1, e2, e3⟩ := h d (List.mem_cons_self ..)
    have ih := lcM_filter p ds fun d hd => h d (List.mem_cons_of_mem _ hd)
    unfold lcM
    cases q : p d with
    | true => simp only [e1, e2, q, e3, e_asD_val, ih, e_l_ok, List.filter_cons, if_true]
    | false => simp only [e1, e2, q, ih, List.filter_cons, Bool.false_eq_true, if_false]
theorem bag_new {S : Sto} {a b : Int} (h : Bag 1 a b) : HasBag (S ++ [.lst [.int a, .int b]]) S.length 1 := ⟨a, b, by rw [List.getElem?_append_right (Nat.le_refl _), Nat.sub_self]; rfl, h⟩
theorem kit_int_int : kitB "int" "int" = some true := by decide +kernel
theorem kit_int_bool : kitB "int" "bool" = some false := by decide +kernel
@[simp] theorem gIsi_int_i {i : Int} : gIsi "int" (.int i) = some (.val (.bool true)) := by
  show (if isDct (.int i) = true then none else (kitB "int" "int").map fun b => T.val (.bool b)) = _
  rw [kit_int_int]
  rfl
@[simp] theorem gIsi_bool_i {i : Int} : gIsi "bool" (.int i) = some (.val (.bool false)) := by
  show (if isDct (.int i) = true then none else (kitB "int" "bool").map fun b => T.val (.bool b)) = _
  rw [kit_int_bool]
  rfl
theorem range0_get {n i : Nat} {d : D} (h : (rangeL 0 n)[i]? = some d) : i < n ∧ d = .int i := by
  obtain ⟨h1, h2⟩ := range_get h
  rw [Int.zero_add] at h2
  exact ⟨h1, h2⟩
theorem lcM_map2 {α : Type} {b : BT1} {elt : SE} {ρ : En} {S : Sto} (u : α → D) (f : α → D) : ∀ (xs : List α), (∀ x ∈ xs, ∃ ρ1 t, b (u x) ρ = some ρ1 ∧ elt ρ1 S = .ok t S ∧ asD t = some (f x)) → lcM b bYes elt ρ (xs.map u) S = .ok (xs.map f) S
  | [], _ => rfl
  | d :: ds, h => by
    obtain ⟨ρ1, t, e1, e2, e3⟩ := h d (List.mem_cons_self ..)
    have ih := lcM_map2 u f ds fun d hd => h d (List.mem_cons_of_mem _ hd)
    rw [List.map_cons]
    unfold lcM
    simp only [e1, e_bYes, e2, e3, ih, e_l_ok, List.map_cons]
theorem str_ext {x y : Str} (h : x.cps.toList = y.cps.toList) : x = y := by
  obtain ⟨⟨l⟩⟩ := x
  obtain ⟨⟨m⟩⟩ := y
  simp only at h
  subst h
  rfl
def emp : Str := ""
theorem emp_cps : emp.cps.toList = [] := TL.tl_ofString ""
theorem emp_is : (Str.ofString "") = emp := rfl
theorem app_emp (x : Str) : x ++ emp = x := str_ext (by rw [cps_append, emp_cps, List.append_nil])
theorem emp_app (x : Str) : emp ++ x = x := str_ext (by rw [cps_append, emp_cps, List.nil_append])
theorem app_assoc (x y z : Str) : x ++ y ++ z = x ++ (y ++ z) := str_ext (by simp only [cps_append, List.append_assoc])
theorem join_nil (s : Str) : (Txt.join s []) = emp := by
  show Builtin.Str.glued s [] = _
  rw [StrLaws.glued_eq_join]
  rfl
theorem join_one (s x : Str) : Txt.join s [x] = x := by
  show Builtin.Str.glued s [x] = _
  rw [StrLaws.glued_eq_join]
  rfl
theorem join_two (s x y : Str) (r : List Str) : Txt.join s (x :: y :: r) = x ++ s ++ Txt.join s (y :: r) := by
  show Builtin.Str.glued s (x :: y :: r) = x ++ s ++ Builtin.Str.glued s (y :: r)
  rw [StrLaws.glued_eq_join, StrLaws.glued_eq_join]
  rfl
theorem join_emp (x : Str) (ys : List Str) : Txt.join emp (x :: ys) = x ++ Txt.join emp ys := by
  cases ys with
  | nil => rw [join_one, join_nil, app_emp]
  | cons y r => rw [join_two, app_emp]
/-- texts without separator -/
def cat : List Str → Str
  | [] => emp
  | x :: xs => x ++ cat xs
theorem join_cat : ∀ ys : List Str, Txt.join emp ys = cat ys
  | [] => join_nil emp
  | x :: ys => by rw [join_emp, join_cat ys]; rfl
theorem cat_append : ∀ (xs ys : List Str), cat (xs ++ ys) = cat xs ++ cat ys
  | [], ys => (emp_app _).symm
  | x :: xs, ys => by
    rw [List.cons_append]
    show x ++ cat (xs ++ ys) = x ++ cat xs ++ cat ys
    rw [cat_append, app_assoc]
theorem len_cps (x : Str) : x.length = x.cps.toList.length := (str_len x).symm
theorem cat_len : ∀ xs : List Str, (cat xs).length = (xs.map (·.length)).sum
  | [] => by rw [len_cps]; show emp.cps.toList.length = 0; rw [emp_cps]; rfl
  | x :: xs => by
    show (x ++ cat xs).length = _
    rw [length_append_str, cat_len xs, List.map_cons, List.sum_cons]
theorem sum_le {xs : List Nat} {k : Nat} (h : ∀ x ∈ xs, x ≤ k) : xs.sum ≤ xs.length * k := by
  induction xs with
  | nil => simp
  | cons x xs ih =>
    have h1 := h x (List.mem_cons_self ..)
    have h2 := ih fun y hy => h y (List.mem_cons_of_mem _ hy)
    rw [List.sum_cons, List.length_cons, Nat.succ_mul]
    omega
theorem ok_cps {x : Str} : PyData.strOk x = true ↔ ∀ c ∈ x.cps.toList, c < 0x110000 := by
  show x.cps.all (fun y => decide (y < 0x110000)) = true ↔ _
  rw [← Array.all_toList, List.all_eq_true]
  simp
theorem cat_ok : ∀ {xs : List Str}, (∀ x ∈ xs, PyData.strOk x = true) → PyData.strOk (cat xs) = true
  | [], _ => by rw [ok_cps]; intro c hc; rw [show (cat []).cps.toList = [] from emp_cps] at hc; cases hc
  | x :: xs, h => by
    exact strOk_append (h x (List.mem_cons_self ..)) (cat_ok fun y hy => h y (List.mem_cons_of_mem _ hy))
/-! ### equality -/
theorem g_eq_self {d : D} (h : eqOk d = true) (hc : PyData.canLay0 d = true) : gEq false d d = some (.val (.bool true)) := by
  unfold gEq
  rw [h, SeqAt.eqv_refl d hc]
  rfl
theorem g_ne_self {d : D} (h : eqOk d = true) (hc : PyData.canLay0 d = true) : gEq true d d = some (.val (.bool false)) := by
  unfold gEq
  rw [h, SeqAt.eqv_refl d hc]
  rfl
/-- plain data at most n deep -/
def plainN : Nat → D → Bool
  | _, .none => true
  | _, .bool _ => true
  | _, .int _ => true
  | _, .str x => PyData.strOk x
  | 0, _ => false
  | n + 1, .list xs => xs.all (plainN n)
  | n + 1, .tuple xs => xs.all (plainN n)
  | _ + 1, .dict _ => false
theorem depth_all {n : Nat} : ∀ {xs : List D}, (∀ x ∈ xs, x.depth ≤ n) → PyData.depthAll xs ≤ n
  | [], _ => by simp [PyData.depthAll]
  | x :: xs, h => by
    have h1 := h x (List.mem_cons_self ..)
    have h2 := depth_all fun y hy => h y (List.mem_cons_of_mem _ hy)
    simp only [PyData.depthAll]
    omega
theorem nd_all : ∀ {xs : List D}, (∀ x ∈ xs, noDict x = true) → noDicts xs = true
  | [], _ => rfl
  | x :: xs, h => by rw [noDicts, h x (List.mem_cons_self ..), nd_all fun y hy => h y (List.mem_cons_of_mem _ hy)]; rfl
theorem can_all : ∀ {xs : List D}, (∀ x ∈ xs, PyData.canLay0 x = true) → PyData.canLayAll0 xs = true
  | [], _ => by simp [PyData.canLayAll0]
  | x :: xs, h => by
    have h1 := h x (List.mem_cons_self ..)
    have h2 := can_all fun y hy => h y (List.mem_cons_of_mem _ hy)
    simp [PyData.canLayAll0, h1, h2]
theorem plainN_ok : ∀ {n : Nat} {d : D}, plainN n d = true → noDict d = true ∧ d.depth ≤ n ∧ PyData.canLay0 d = true
  | n, .none, _ => ⟨rfl, by simp [PyData.depth], by simp [PyData.canLay0]⟩
  | n, .bool b, _ => ⟨rfl, by simp [PyData.depth], by simp [PyData.canLay0]⟩
  | n, .int i, _ => ⟨rfl, by simp [PyData.depth], by simp [PyData.canLay0]⟩
  | n, .str x, h => ⟨rfl, by simp [PyData.depth], by
    have h' : PyData.strOk x = true := by cases n <;> exact h
    exact h'⟩
  | 0, .list xs, h => nomatch h
  | 0, .tuple xs, h => nomatch h
  | 0, .dict xs, h => nomatch h
  | n + 1, .list xs, h => by
    have h' : xs.all (plainN n) = true := h
    rw [List.all_eq_true] at h'
    exact ⟨nd_all fun x hx => (plainN_ok (h' x hx)).1, by
      have := depth_all fun x hx => (plainN_ok (h' x hx)).2.1
      simp only [PyData.depth]
      omega, can_all fun x hx => (plainN_ok (h' x hx)).2.2⟩
  | n + 1, .tuple xs, h => by
    have h' : xs.all (plainN n) = true := h
    rw [List.all_eq_true] at h'
    exact ⟨nd_all fun x hx => (plainN_ok (h' x hx)).1, by
      have := depth_all fun x hx => (plainN_ok (h' x hx)).2.1
      simp only [PyData.depth]
      omega, can_all fun x hx => (plainN_ok (h' x hx)).2.2⟩
  | n + 1, .dict xs, h => nomatch h
theorem eqOk_of {n : Nat} {d : D} (h : plainN n d = true) (hn : n ≤ 64) : eqOk d = true := by
  obtain ⟨h1, h2, _⟩ := plainN_ok h
  unfold eqOk
  rw [h1, Bool.true_and]
  exact decide_eq_true (Nat.le_trans h2 hn)
theorem eq_self {n : Nat} {d : D} (h : plainN n d = true) (hn : n ≤ 64) : gEq false d d = some (.val (.bool true)) := g_eq_self (eqOk_of h hn) (plainN_ok h).2.2
theorem ne_self {n : Nat} {d : D} (h : plainN n d = true) (hn : n ≤ 64) : gEq true d d = some (.val (.bool false)) := g_ne_self (eqOk_of h hn) (plainN_ok h).2.2
end BV
/-! Exceptions by name, evaluated. -/
namespace BV
open PySem L2

@[simp] theorem isExc_NoHoles : isExc "NoHoles" = true := by decide +kernel
@[simp] theorem isExc_NoCase : isExc "NoCase" = true := by decide +kernel
@[simp] theorem isExc_NoName : isExc "NoName" = true := by decide +kernel
@[simp] theorem isExc_NoLayout : isExc "NoLayout" = true := by decide +kernel
@[simp] theorem isExc_Tight : isExc "Tight" = true := by decide +kernel
@[simp] theorem isExc_Loose : isExc "Loose" = true := by decide +kernel
@[simp] theorem isExc_NoLines : isExc "NoLines" = true := by decide +kernel
@[simp] theorem isExc_TooMany : isExc "TooMany" = true := by decide +kernel
@[simp] theorem isExc_NoEnd : isExc "NoEnd" = true := by decide +kernel
@[simp] theorem isExc_NoMold : isExc "NoMold" = true := by decide +kernel
@[simp] theorem isExc_NoLine : isExc "NoLine" = true := by decide +kernel
@[simp] theorem isExc_NoPaper : isExc "NoPaper" = true := by decide +kernel
@[simp] theorem isExc_NoText : isExc "NoText" = true := by decide +kernel
@[simp] theorem isExc_NoRow : isExc "NoRow" = true := by decide +kernel
@[simp] theorem isExc_NoStep : isExc "NoStep" = true := by decide +kernel
@[simp] theorem isExc_CastError : isExc "CastError" = true := by decide +kernel
@[simp] theorem exmB_base {x : Str} : exmB x "CastError" = true := by simp [exmB]
@[simp] theorem exmB_value {x : Str} : exmB x "ValueError" = true := by simp [exmB]
@[simp] theorem exmB_NoHoles_NoHoles : exmB "NoHoles" "NoHoles" = true := by decide +kernel
@[simp] theorem exmB_NoHoles_NoCase : exmB "NoHoles" "NoCase" = false := by decide +kernel
@[simp] theorem exmB_NoHoles_NoName : exmB "NoHoles" "NoName" = false := by decide +kernel
@[simp] theorem exmB_NoHoles_NoLayout : exmB "NoHoles" "NoLayout" = false := by decide +kernel
@[simp] theorem exmB_NoHoles_Tight : exmB "NoHoles" "Tight" = false := by decide +kernel
@[simp] theorem exmB_NoHoles_Loose : exmB "NoHoles" "Loose" = false := by decide +kernel
@[simp] theorem exmB_NoHoles_NoLines : exmB "NoHoles" "NoLines" = false := by decide +kernel
@[simp] theorem exmB_NoHoles_TooMany : exmB "NoHoles" "TooMany" = false := by decide +kernel
@[simp] theorem exmB_NoHoles_NoEnd : exmB "NoHoles" "NoEnd" = false := by decide +kernel
@[simp] theorem exmB_NoHoles_NoMold : exmB "NoHoles" "NoMold" = false := by decide +kernel
@[simp] theorem exmB_NoHoles_NoLine : exmB "NoHoles" "NoLine" = false := by decide +kernel
@[simp] theorem exmB_NoHoles_NoPaper : exmB "NoHoles" "NoPaper" = false := by decide +kernel
@[simp] theorem exmB_NoHoles_NoText : exmB "NoHoles" "NoText" = false := by decide +kernel
@[simp] theorem exmB_NoHoles_NoRow : exmB "NoHoles" "NoRow" = false := by decide +kernel
@[simp] theorem exmB_NoHoles_NoStep : exmB "NoHoles" "NoStep" = false := by decide +kernel
@[simp] theorem exmB_NoCase_NoHoles : exmB "NoCase" "NoHoles" = false := by decide +kernel
@[simp] theorem exmB_NoCase_NoCase : exmB "NoCase" "NoCase" = true := by decide +kernel
@[simp] theorem exmB_NoCase_NoName : exmB "NoCase" "NoName" = false := by decide +kernel
@[simp] theorem exmB_NoCase_NoLayout : exmB "NoCase" "NoLayout" = false := by decide +kernel
@[simp] theorem exmB_NoCase_Tight : exmB "NoCase" "Tight" = false := by decide +kernel
@[simp] theorem exmB_NoCase_Loose : exmB "NoCase" "Loose" = false := by decide +kernel
@[simp] theorem exmB_NoCase_NoLines : exmB "NoCase" "NoLines" = false := by decide +kernel
@[simp] theorem exmB_NoCase_TooMany : exmB "NoCase" "TooMany" = false := by decide +kernel
@[simp] theorem exmB_NoCase_NoEnd : exmB "NoCase" "NoEnd" = false := by decide +kernel
@[simp] theorem exmB_NoCase_NoMold : exmB "NoCase" "NoMold" = false := by decide +kernel
@[simp] theorem exmB_NoCase_NoLine : exmB "NoCase" "NoLine" = false := by decide +kernel
@[simp] theorem exmB_NoCase_NoPaper : exmB "NoCase" "NoPaper" = false := by decide +kernel
@[simp] theorem exmB_NoCase_NoText : exmB "NoCase" "NoText" = false := by decide +kernel
@[simp] theorem exmB_NoCase_NoRow : exmB "NoCase" "NoRow" = false := by decide +kernel
@[simp] theorem exmB_NoCase_NoStep : exmB "NoCase" "NoStep" = false := by decide +kernel
@[simp] theorem exmB_NoName_NoHoles : exmB "NoName" "NoHoles" = false := by decide +kernel
@[simp] theorem exmB_NoName_NoCase : exmB "NoName" "NoCase" = false := by decide +kernel
@[simp] theorem exmB_NoName_NoName : exmB "NoName" "NoName" = true := by decide +kernel
@[simp] theorem exmB_NoName_NoLayout : exmB "NoName" "NoLayout" = false := by decide +kernel
@[simp] theorem exmB_NoName_Tight : exmB "NoName" "Tight" = false := by decide +kernel
@[simp] theorem exmB_NoName_Loose : exmB "NoName" "Loose" = false := by decide +kernel
@[simp] theorem exmB_NoName_NoLines : exmB "NoName" "NoLines" = false := by decide +kernel
@[simp] theorem exmB_NoName_TooMany : exmB "NoName" "TooMany" = false := by decide +kernel
@[simp] theorem exmB_NoName_NoEnd : exmB "NoName" "NoEnd" = false := by decide +kernel
@[simp] theorem exmB_NoName_NoMold : exmB "NoName" "NoMold" = false := by decide +kernel
@[simp] theorem exmB_NoName_NoLine : exmB "NoName" "NoLine" = false := by decide +kernel
@[simp] theorem exmB_NoName_NoPaper : exmB "NoName" "NoPaper" = false := by decide +kernel
@[simp] theorem exmB_NoName_NoText : exmB "NoName" "NoText" = false := by decide +kernel
@[simp] theorem exmB_NoName_NoRow : exmB "NoName" "NoRow" = false := by decide +kernel
@[simp] theorem exmB_NoName_NoStep : exmB "NoName" "NoStep" = false := by decide +kernel
@[simp] theorem exmB_NoLayout_NoHoles : exmB "NoLayout" "NoHoles" = false := by decide +kernel
@[simp] theorem exmB_NoLayout_NoCase : exmB "NoLayout" "NoCase" = false := by decide +kernel
@[simp] theorem exmB_NoLayout_NoName : exmB "NoLayout" "NoName" = false := by decide +kernel
@[simp] theorem exmB_NoLayout_NoLayout : exmB "NoLayout" "NoLayout" = true := by decide +kernel
@[simp] theorem exmB_NoLayout_Tight : exmB "NoLayout" "Tight" = false := by decide +kernel
@[simp] theorem exmB_NoLayout_Loose : exmB "NoLayout" "Loose" = false := by decide +kernel
@[simp] theorem exmB_NoLayout_NoLines : exmB "NoLayout" "NoLines" = false := by decide +kernel
@[simp] theorem exmB_NoLayout_TooMany : exmB "NoLayout" "TooMany" = false := by decide +kernel
@[simp] theorem exmB_NoLayout_NoEnd : exmB "NoLayout" "NoEnd" = false := by decide +kernel
@[simp] theorem exmB_NoLayout_NoMold : exmB "NoLayout" "NoMold" = false := by decide +kernel
@[simp] theorem exmB_NoLayout_NoLine : exmB "NoLayout" "NoLine" = false := by decide +kernel
@[simp] theorem exmB_NoLayout_NoPaper : exmB "NoLayout" "NoPaper" = false := by decide +kernel
@[simp] theorem exmB_NoLayout_NoText : exmB "NoLayout" "NoText" = false := by decide +kernel
@[simp] theorem exmB_NoLayout_NoRow : exmB "NoLayout" "NoRow" = false := by decide +kernel
@[simp] theorem exmB_NoLayout_NoStep : exmB "NoLayout" "NoStep" = false := by decide +kernel
@[simp] theorem exmB_Tight_NoHoles : exmB "Tight" "NoHoles" = false := by decide +kernel
@[simp] theorem exmB_Tight_NoCase : exmB "Tight" "NoCase" = false := by decide +kernel
@[simp] theorem exmB_Tight_NoName : exmB "Tight" "NoName" = false := by decide +kernel
@[simp] theorem exmB_Tight_NoLayout : exmB "Tight" "NoLayout" = false := by decide +kernel
@[simp] theorem exmB_Tight_Tight : exmB "Tight" "Tight" = true := by decide +kernel
@[simp] theorem exmB_Tight_Loose : exmB "Tight" "Loose" = false := by decide +kernel
@[simp] theorem exmB_Tight_NoLines : exmB "Tight" "NoLines" = false := by decide +kernel
@[simp] theorem exmB_Tight_TooMany : exmB "Tight" "TooMany" = false := by decide +kernel
@[simp] theorem exmB_Tight_NoEnd : exmB "Tight" "NoEnd" = false := by decide +kernel
@[simp] theorem exmB_Tight_NoMold : exmB "Tight" "NoMold" = false := by decide +kernel
@[simp] theorem exmB_Tight_NoLine : exmB "Tight" "NoLine" = false := by decide +kernel
@[simp] theorem exmB_Tight_NoPaper : exmB "Tight" "NoPaper" = false := by decide +kernel
@[simp] theorem exmB_Tight_NoText : exmB "Tight" "NoText" = false := by decide +kernel
@[simp] theorem exmB_Tight_NoRow : exmB "Tight" "NoRow" = false := by decide +kernel
@[simp] theorem exmB_Tight_NoStep : exmB "Tight" "NoStep" = false := by decide +kernel
@[simp] theorem exmB_Loose_NoHoles : exmB "Loose" "NoHoles" = false := by decide +kernel
@[simp] theorem exmB_Loose_NoCase : exmB "Loose" "NoCase" = false := by decide +kernel
@[simp] theorem exmB_Loose_NoName : exmB "Loose" "NoName" = false := by decide +kernel
@[simp] theorem exmB_Loose_NoLayout : exmB "Loose" "NoLayout" = false := by decide +kernel
@[simp] theorem exmB_Loose_Tight : exmB "Loose" "Tight" = false := by decide +kernel
@[simp] theorem exmB_Loose_Loose : exmB "Loose" "Loose" = true := by decide +kernel
@[simp] theorem exmB_Loose_NoLines : exmB "Loose" "NoLines" = false := by decide +kernel
@[simp] theorem exmB_Loose_TooMany : exmB "Loose" "TooMany" = false := by decide +kernel
@[simp] theorem exmB_Loose_NoEnd : exmB "Loose" "NoEnd" = false := by decide +kernel
@[simp] theorem exmB_Loose_NoMold : exmB "Loose" "NoMold" = false := by decide +kernel
@[simp] theorem exmB_Loose_NoLine : exmB "Loose" "NoLine" = false := by decide +kernel
@[simp] theorem exmB_Loose_NoPaper : exmB "Loose" "NoPaper" = false := by decide +kernel
@[simp] theorem exmB_Loose_NoText : exmB "Loose" "NoText" = false := by decide +kernel
@[simp] theorem exmB_Loose_NoRow : exmB "Loose" "NoRow" = false := by decide +kernel
@[simp] theorem exmB_Loose_NoStep : exmB "Loose" "NoStep" = false := by decide +kernel
@[simp] theorem exmB_NoLines_NoHoles : exmB "NoLines" "NoHoles" = false := by decide +kernel
@[simp] theorem exmB_NoLines_NoCase : exmB "NoLines" "NoCase" = false := by decide +kernel
@[simp] theorem exmB_NoLines_NoName : exmB "NoLines" "NoName" = false := by decide +kernel
@[simp] theorem exmB_NoLines_NoLayout : exmB "NoLines" "NoLayout" = false := by decide +kernel
@[simp] theorem exmB_NoLines_Tight : exmB "NoLines" "Tight" = false := by decide +kernel
@[simp] theorem exmB_NoLines_Loose : exmB "NoLines" "Loose" = false := by decide +kernel
@[simp] theorem exmB_NoLines_NoLines : exmB "NoLines" "NoLines" = true := by decide +kernel
@[simp] theorem exmB_NoLines_TooMany : exmB "NoLines" "TooMany" = false := by decide +kernel
@[simp] theorem exmB_NoLines_NoEnd : exmB "NoLines" "NoEnd" = false := by decide +kernel
@[simp] theorem exmB_NoLines_NoMold : exmB "NoLines" "NoMold" = false := by decide +kernel
@[simp] theorem exmB_NoLines_NoLine : exmB "NoLines" "NoLine" = false := by decide +kernel
@[simp] theorem exmB_NoLines_NoPaper : exmB "NoLines" "NoPaper" = false := by decide +kernel
@[simp] theorem exmB_NoLines_NoText : exmB "NoLines" "NoText" = false := by decide +kernel
@[simp] theorem exmB_NoLines_NoRow : exmB "NoLines" "NoRow" = false := by decide +kernel
@[simp] theorem exmB_NoLines_NoStep : exmB "NoLines" "NoStep" = false := by decide +kernel
@[simp] theorem exmB_TooMany_NoHoles : exmB "TooMany" "NoHoles" = false := by decide +kernel
@[simp] theorem exmB_TooMany_NoCase : exmB "TooMany" "NoCase" = false := by decide +kernel
@[simp] theorem exmB_TooMany_NoName : exmB "TooMany" "NoName" = false := by decide +kernel
@[simp] theorem exmB_TooMany_NoLayout : exmB "TooMany" "NoLayout" = false := by decide +kernel
@[simp] theorem exmB_TooMany_Tight : exmB "TooMany" "Tight" = false := by decide +kernel
@[simp] theorem exmB_TooMany_Loose : exmB "TooMany" "Loose" = false := by decide +kernel
@[simp] theorem exmB_TooMany_NoLines : exmB "TooMany" "NoLines" = false := by decide +kernel
@[simp] theorem exmB_TooMany_TooMany : exmB "TooMany" "TooMany" = true := by decide +kernel
@[simp] theorem exmB_TooMany_NoEnd : exmB "TooMany" "NoEnd" = false := by decide +kernel
@[simp] theorem exmB_TooMany_NoMold : exmB "TooMany" "NoMold" = false := by decide +kernel
@[simp] theorem exmB_TooMany_NoLine : exmB "TooMany" "NoLine" = false := by decide +kernel
@[simp] theorem exmB_TooMany_NoPaper : exmB "TooMany" "NoPaper" = false := by decide +kernel
@[simp] theorem exmB_TooMany_NoText : exmB "TooMany" "NoText" = false := by decide +kernel
@[simp] theorem exmB_TooMany_NoRow : exmB "TooMany" "NoRow" = false := by decide +kernel
@[simp] theorem exmB_TooMany_NoStep : exmB "TooMany" "NoStep" = false := by decide +kernel
@[simp] theorem exmB_NoEnd_NoHoles : exmB "NoEnd" "NoHoles" = false := by decide +kernel
@[simp] theorem exmB_NoEnd_NoCase : exmB "NoEnd" "NoCase" = false := by decide +kernel
@[simp] theorem exmB_NoEnd_NoName : exmB "NoEnd" "NoName" = false := by decide +kernel
@[simp] theorem exmB_NoEnd_NoLayout : exmB "NoEnd" "NoLayout" = false := by decide +kernel
@[simp] theorem exmB_NoEnd_Tight : exmB "NoEnd" "Tight" = false := by decide +kernel
@[simp] theorem exmB_NoEnd_Loose : exmB "NoEnd" "Loose" = false := by decide +kernel
@[simp] theorem exmB_NoEnd_NoLines : exmB "NoEnd" "NoLines" = false := by decide +kernel
@[simp] theorem exmB_NoEnd_TooMany : exmB "NoEnd" "TooMany" = false := by decide +kernel
@[simp] theorem exmB_NoEnd_NoEnd : exmB "NoEnd" "NoEnd" = true := by decide +kernel
@[simp] theorem exmB_NoEnd_NoMold : exmB "NoEnd" "NoMold" = false := by decide +kernel
@[simp] theorem exmB_NoEnd_NoLine : exmB "NoEnd" "NoLine" = false := by decide +kernel
@[simp] theorem exmB_NoEnd_NoPaper : exmB "NoEnd" "NoPaper" = false := by decide +kernel
@[simp] theorem exmB_NoEnd_NoText : exmB "NoEnd" "NoText" = false := by decide +kernel
@[simp] theorem exmB_NoEnd_NoRow : exmB "NoEnd" "NoRow" = false := by decide +kernel
@[simp] theorem exmB_NoEnd_NoStep : exmB "NoEnd" "NoStep" = false := by decide +kernel
@[simp] theorem exmB_NoMold_NoHoles : exmB "NoMold" "NoHoles" = false := by decide +kernel
@[simp] theorem exmB_NoMold_NoCase : exmB "NoMold" "NoCase" = false := by decide +kernel
@[simp] theorem exmB_NoMold_NoName : exmB "NoMold" "NoName" = false := by decide +kernel
@[simp] theorem exmB_NoMold_NoLayout : exmB "NoMold" "NoLayout" = false := by decide +kernel
@[simp] theorem exmB_NoMold_Tight : exmB "NoMold" "Tight" = false := by decide +kernel
@[simp] theorem exmB_NoMold_Loose : exmB "NoMold" "Loose" = false := by decide +kernel
@[simp] theorem exmB_NoMold_NoLines : exmB "NoMold" "NoLines" = false := by decide +kernel
@[simp] theorem exmB_NoMold_TooMany : exmB "NoMold" "TooMany" = false := by decide +kernel
@[simp] theorem exmB_NoMold_NoEnd : exmB "NoMold" "NoEnd" = false := by decide +kernel
@[simp] theorem exmB_NoMold_NoMold : exmB "NoMold" "NoMold" = true := by decide +kernel
@[simp] theorem exmB_NoMold_NoLine : exmB "NoMold" "NoLine" = false := by decide +kernel
@[simp] theorem exmB_NoMold_NoPaper : exmB "NoMold" "NoPaper" = false := by decide +kernel
@[simp] theorem exmB_NoMold_NoText : exmB "NoMold" "NoText" = false := by decide +kernel
@[simp] theorem exmB_NoMold_NoRow : exmB "NoMold" "NoRow" = false := by decide +kernel
@[simp] theorem exmB_NoMold_NoStep : exmB "NoMold" "NoStep" = false := by decide +kernel
@[simp] theorem exmB_NoLine_NoHoles : exmB "NoLine" "NoHoles" = false := by decide +kernel
@[simp] theorem exmB_NoLine_NoCase : exmB "NoLine" "NoCase" = false := by decide +kernel
@[simp] theorem exmB_NoLine_NoName : exmB "NoLine" "NoName" = false := by decide +kernel
@[simp] theorem exmB_NoLine_NoLayout : exmB "NoLine" "NoLayout" = false := by decide +kernel
@[simp] theorem exmB_NoLine_Tight : exmB "NoLine" "Tight" = false := by decide +kernel
@[simp] theorem exmB_NoLine_Loose : exmB "NoLine" "Loose" = false := by decide +kernel
@[simp] theorem exmB_NoLine_NoLines : exmB "NoLine" "NoLines" = false := by decide +kernel
@[simp] theorem exmB_NoLine_TooMany : exmB "NoLine" "TooMany" = false := by decide +kernel
@[simp] theorem exmB_NoLine_NoEnd : exmB "NoLine" "NoEnd" = false := by decide +kernel
@[simp] theorem exmB_NoLine_NoMold : exmB "NoLine" "NoMold" = false := by decide +kernel
@[simp] theorem exmB_NoLine_NoLine : exmB "NoLine" "NoLine" = true := by decide +kernel
@[simp] theorem exmB_NoLine_NoPaper : exmB "NoLine" "NoPaper" = false := by decide +kernel
@[simp] theorem exmB_NoLine_NoText : exmB "NoLine" "NoText" = false := by decide +kernel
@[simp] theorem exmB_NoLine_NoRow : exmB "NoLine" "NoRow" = false := by decide +kernel
@[simp] theorem exmB_NoLine_NoStep : exmB "NoLine" "NoStep" = false := by decide +kernel
@[simp] theorem exmB_NoPaper_NoHoles : exmB "NoPaper" "NoHoles" = false := by decide +kernel
@[simp] theorem exmB_NoPaper_NoCase : exmB "NoPaper" "NoCase" = false := by decide +kernel
@[simp] theorem exmB_NoPaper_NoName : exmB "NoPaper" "NoName" = false := by decide +kernel
@[simp] theorem exmB_NoPaper_NoLayout : exmB "NoPaper" "NoLayout" = false := by decide +kernel
@[simp] theorem exmB_NoPaper_Tight : exmB "NoPaper" "Tight" = false := by decide +kernel
@[simp] theorem exmB_NoPaper_Loose : exmB "NoPaper" "Loose" = false := by decide +kernel
@[simp] theorem exmB_NoPaper_NoLines : exmB "NoPaper" "NoLines" = false := by decide +kernel
@[simp] theorem exmB_NoPaper_TooMany : exmB "NoPaper" "TooMany" = false := by decide +kernel
@[simp] theorem exmB_NoPaper_NoEnd : exmB "NoPaper" "NoEnd" = false := by decide +kernel
@[simp] theorem exmB_NoPaper_NoMold : exmB "NoPaper" "NoMold" = false := by decide +kernel
@[simp] theorem exmB_NoPaper_NoLine : exmB "NoPaper" "NoLine" = false := by decide +kernel
@[simp] theorem exmB_NoPaper_NoPaper : exmB "NoPaper" "NoPaper" = true := by decide +kernel
@[simp] theorem exmB_NoPaper_NoText : exmB "NoPaper" "NoText" = false := by decide +kernel
@[simp] theorem exmB_NoPaper_NoRow : exmB "NoPaper" "NoRow" = false := by decide +kernel
@[simp] theorem exmB_NoPaper_NoStep : exmB "NoPaper" "NoStep" = false := by decide +kernel
@[simp] theorem exmB_NoText_NoHoles : exmB "NoText" "NoHoles" = false := by decide +kernel
@[simp] theorem exmB_NoText_NoCase : exmB "NoText" "NoCase" = false := by decide +kernel
@[simp] theorem exmB_NoText_NoName : exmB "NoText" "NoName" = false := by decide +kernel
@[simp] theorem exmB_NoText_NoLayout : exmB "NoText" "NoLayout" = false := by decide +kernel
@[simp] theorem exmB_NoText_Tight : exmB "NoText" "Tight" = false := by decide +kernel
@[simp] theorem exmB_NoText_Loose : exmB "NoText" "Loose" = false := by decide +kernel
@[simp] theorem exmB_NoText_NoLines : exmB "NoText" "NoLines" = false := by decide +kernel
@[simp] theorem exmB_NoText_TooMany : exmB "NoText" "TooMany" = false := by decide +kernel
@[simp] theorem exmB_NoText_NoEnd : exmB "NoText" "NoEnd" = false := by decide +kernel
@[simp] theorem exmB_NoText_NoMold : exmB "NoText" "NoMold" = false := by decide +kernel
@[simp] theorem exmB_NoText_NoLine : exmB "NoText" "NoLine" = false := by decide +kernel
@[simp] theorem exmB_NoText_NoPaper : exmB "NoText" "NoPaper" = false := by decide +kernel
@[simp] theorem exmB_NoText_NoText : exmB "NoText" "NoText" = true := by decide +kernel
@[simp] theorem exmB_NoText_NoRow : exmB "NoText" "NoRow" = false := by decide +kernel
@[simp] theorem exmB_NoText_NoStep : exmB "NoText" "NoStep" = false := by decide +kernel
@[simp] theorem exmB_NoRow_NoHoles : exmB "NoRow" "NoHoles" = false := by decide +kernel
@[simp] theorem exmB_NoRow_NoCase : exmB "NoRow" "NoCase" = false := by decide +kernel
@[simp] theorem exmB_NoRow_NoName : exmB "NoRow" "NoName" = false := by decide +kernel
@[simp] theorem exmB_NoRow_NoLayout : exmB "NoRow" "NoLayout" = false := by decide +kernel
@[simp] theorem exmB_NoRow_Tight : exmB "NoRow" "Tight" = false := by decide +kernel
@[simp] theorem exmB_NoRow_Loose : exmB "NoRow" "Loose" = false := by decide +kernel
@[simp] theorem exmB_NoRow_NoLines : exmB "NoRow" "NoLines" = false := by decide +kernel
@[simp] theorem exmB_NoRow_TooMany : exmB "NoRow" "TooMany" = false := by decide +kernel
@[simp] theorem exmB_NoRow_NoEnd : exmB "NoRow" "NoEnd" = false := by decide +kernel
@[simp] theorem exmB_NoRow_NoMold : exmB "NoRow" "NoMold" = false := by decide +kernel
@[simp] theorem exmB_NoRow_NoLine : exmB "NoRow" "NoLine" = false := by decide +kernel
@[simp] theorem exmB_NoRow_NoPaper : exmB "NoRow" "NoPaper" = false := by decide +kernel
@[simp] theorem exmB_NoRow_NoText : exmB "NoRow" "NoText" = false := by decide +kernel
@[simp] theorem exmB_NoRow_NoRow : exmB "NoRow" "NoRow" = true := by decide +kernel
@[simp] theorem exmB_NoRow_NoStep : exmB "NoRow" "NoStep" = false := by decide +kernel
@[simp] theorem exmB_NoStep_NoHoles : exmB "NoStep" "NoHoles" = false := by decide +kernel
@[simp] theorem exmB_NoStep_NoCase : exmB "NoStep" "NoCase" = false := by decide +kernel
@[simp] theorem exmB_NoStep_NoName : exmB "NoStep" "NoName" = false := by decide +kernel
@[simp] theorem exmB_NoStep_NoLayout : exmB "NoStep" "NoLayout" = false := by decide +kernel
@[simp] theorem exmB_NoStep_Tight : exmB "NoStep" "Tight" = false := by decide +kernel
@[simp] theorem exmB_NoStep_Loose : exmB "NoStep" "Loose" = false := by decide +kernel
@[simp] theorem exmB_NoStep_NoLines : exmB "NoStep" "NoLines" = false := by decide +kernel
@[simp] theorem exmB_NoStep_TooMany : exmB "NoStep" "TooMany" = false := by decide +kernel
@[simp] theorem exmB_NoStep_NoEnd : exmB "NoStep" "NoEnd" = false := by decide +kernel
@[simp] theorem exmB_NoStep_NoMold : exmB "NoStep" "NoMold" = false := by decide +kernel
@[simp] theorem exmB_NoStep_NoLine : exmB "NoStep" "NoLine" = false := by decide +kernel
@[simp] theorem exmB_NoStep_NoPaper : exmB "NoStep" "NoPaper" = false := by decide +kernel
@[simp] theorem exmB_NoStep_NoText : exmB "NoStep" "NoText" = false := by decide +kernel
@[simp] theorem exmB_NoStep_NoRow : exmB "NoStep" "NoRow" = false := by decide +kernel
@[simp] theorem exmB_NoStep_NoStep : exmB "NoStep" "NoStep" = true := by decide +kernel
@[simp] theorem exmB_CastError_NoHoles : exmB "CastError" "NoHoles" = false := by decide +kernel
@[simp] theorem exmB_CastError_NoCase : exmB "CastError" "NoCase" = false := by decide +kernel
@[simp] theorem exmB_CastError_NoName : exmB "CastError" "NoName" = false := by decide +kernel
@[simp] theorem exmB_CastError_NoLayout : exmB "CastError" "NoLayout" = false := by decide +kernel
@[simp] theorem exmB_CastError_Tight : exmB "CastError" "Tight" = false := by decide +kernel
@[simp] theorem exmB_CastError_Loose : exmB "CastError" "Loose" = false := by decide +kernel
@[simp] theorem exmB_CastError_NoLines : exmB "CastError" "NoLines" = false := by decide +kernel
@[simp] theorem exmB_CastError_TooMany : exmB "CastError" "TooMany" = false := by decide +kernel
@[simp] theorem exmB_CastError_NoEnd : exmB "CastError" "NoEnd" = false := by decide +kernel
@[simp] theorem exmB_CastError_NoMold : exmB "CastError" "NoMold" = false := by decide +kernel
@[simp] theorem exmB_CastError_NoLine : exmB "CastError" "NoLine" = false := by decide +kernel
@[simp] theorem exmB_CastError_NoPaper : exmB "CastError" "NoPaper" = false := by decide +kernel
@[simp] theorem exmB_CastError_NoText : exmB "CastError" "NoText" = false := by decide +kernel
@[simp] theorem exmB_CastError_NoRow : exmB "CastError" "NoRow" = false := by decide +kernel
@[simp] theorem exmB_CastError_NoStep : exmB "CastError" "NoStep" = false := by decide +kernel
@[simp] theorem e_try {g : SS} {hs : List (Str × SS)} {ρ : En} {S : Sto} : sTry g hs ρ S = (match g ρ S with
  | .ex e ρ1 S1 => if isExc e.cls then hdl hs e ρ1 S1 else .bad
  | r => r) := rfl
@[simp] theorem hdl_nil {e : Exc} {ρ : En} {S : Sto} : hdl [] e ρ S = .ex e ρ S := rfl
@[simp] theorem hdl_cons {c : Str} {g : SS} {r : List (Str × SS)} {e : Exc} {ρ : En} {S : Sto} : hdl ((c, g) :: r) e ρ S = if exmB e.cls c then calmF (g ρ S) else hdl r e ρ S := rfl
@[simp] theorem calm_nx {ρ : En} {S : Sto} : calmF (.nx ρ S) = .nx ρ S := rfl
@[simp] theorem calm_rt {t : T} {S : Sto} : calmF (.rt t S) = .rt t S := rfl
@[simp] theorem calm_bk {ρ : En} {S : Sto} : calmF (.bk ρ S) = .bk ρ S := rfl
@[simp] theorem calm_ct {ρ : En} {S : Sto} : calmF (.ct ρ S) = .ct ρ S := rfl
end BV
/-! Evaluation: isinstance, equality, dicts, comprehensions. -/
namespace BV
open PySem L2

theorem kit_none_int : kitB "NoneType" "int" = some false := by decide +kernel
@[simp] theorem gIsi_int_n  : gIsi "int" (.none) = some (.val (.bool false)) := by
  show (if isDct (.none) = true then none else (kitB "NoneType" "int").map fun b => T.val (.bool b)) = _
  rw [kit_none_int]
  rfl
theorem kit_bool_int : kitB "bool" "int" = some true := by decide +kernel
@[simp] theorem gIsi_int_b {b : Bool} : gIsi "int" (.bool b) = some (.val (.bool true)) := by
  show (if isDct (.bool b) = true then none else (kitB "bool" "int").map fun b => T.val (.bool b)) = _
  rw [kit_bool_int]
  rfl
theorem kit_int_int' : kitB "int" "int" = some true := by decide +kernel
@[simp] theorem gIsi_int_i' {i : Int} : gIsi "int" (.int i) = some (.val (.bool true)) := by
  show (if isDct (.int i) = true then none else (kitB "int" "int").map fun b => T.val (.bool b)) = _
  rw [kit_int_int']
  rfl
theorem kit_str_int : kitB "str" "int" = some false := by decide +kernel
@[simp] theorem gIsi_int_s {x : Str} : gIsi "int" (.str x) = some (.val (.bool false)) := by
  show (if isDct (.str x) = true then none else (kitB "str" "int").map fun b => T.val (.bool b)) = _
  rw [kit_str_int]
  rfl
theorem kit_list_int : kitB "list" "int" = some false := by decide +kernel
@[simp] theorem gIsi_int_l {xs : List D} : gIsi "int" (.list xs) = some (.val (.bool false)) := by
  show (if isDct (.list xs) = true then none else (kitB "list" "int").map fun b => T.val (.bool b)) = _
  rw [kit_list_int]
  rfl
theorem kit_tuple_int : kitB "tuple" "int" = some false := by decide +kernel
@[simp] theorem gIsi_int_t {xs : List D} : gIsi "int" (.tuple xs) = some (.val (.bool false)) := by
  show (if isDct (.tuple xs) = true then none else (kitB "tuple" "int").map fun b => T.val (.bool b)) = _
  rw [kit_tuple_int]
  rfl
theorem kit_none_bool : kitB "NoneType" "bool" = some false := by decide +kernel
@[simp] theorem gIsi_bool_n  : gIsi "bool" (.none) = some (.val (.bool false)) := by
  show (if isDct (.none) = true then none else (kitB "NoneType" "bool").map fun b => T.val (.bool b)) = _
  rw [kit_none_bool]
  rfl
theorem kit_bool_bool : kitB "bool" "bool" = some true := by decide +kernel
@[simp] theorem gIsi_bool_b {b : Bool} : gIsi "bool" (.bool b) = some (.val (.bool true)) := by
  show (if isDct (.bool b) = true then none else (kitB "bool" "bool").map fun b => T.val (.bool b)) = _
  rw [kit_bool_bool]
  rfl
theorem kit_int_bool' : kitB "int" "bool" = some false := by decide +kernel
@[simp] theorem gIsi_bool_i' {i : Int} : gIsi "bool" (.int i) = some (.val (.bool false)) := by
  show (if isDct (.int i) = true then none else (kitB "int" "bool").map fun b => T.val (.bool b)) = _
  rw [kit_int_bool']
  rfl
theorem kit_str_bool : kitB "str" "bool" = some false := by decide +kernel
@[simp] theorem gIsi_bool_s {x : Str} : gIsi "bool" (.str x) = some (.val (.bool false)) := by
  show (if isDct (.str x) = true then none else (kitB "str" "bool").map fun b => T.val (.bool b)) = _
  rw [kit_str_bool]
  rfl
theorem kit_list_bool : kitB "list" "bool" = some false := by decide +kernel
@[simp] theorem gIsi_bool_l {xs : List D} : gIsi "bool" (.list xs) = some (.val (.bool false)) := by
  show (if isDct (.list xs) = true then none else (kitB "list" "bool").map fun b => T.val (.bool b)) = _
  rw [kit_list_bool]
  rfl
theorem kit_tuple_bool : kitB "tuple" "bool" = some false := by decide +kernel
@[simp] theorem gIsi_bool_t {xs : List D} : gIsi "bool" (.tuple xs) = some (.val (.bool false)) := by
  show (if isDct (.tuple xs) = true then none else (kitB "tuple" "bool").map fun b => T.val (.bool b)) = _
  rw [kit_tuple_bool]
  rfl
theorem kit_none_str : kitB "NoneType" "str" = some false := by decide +kernel
@[simp] theorem gIsi_str_n  : gIsi "str" (.none) = some (.val (.bool false)) := by
  show (if isDct (.none) = true then none else (kitB "NoneType" "str").map fun b => T.val (.bool b)) = _
  rw [kit_none_str]
  rfl
theorem kit_bool_str : kitB "bool" "str" = some false := by decide +kernel
@[simp] theorem gIsi_str_b {b : Bool} : gIsi "str" (.bool b) = some (.val (.bool false)) := by
  show (if isDct (.bool b) = true then none else (kitB "bool" "str").map fun b => T.val (.bool b)) = _
  rw [kit_bool_str]
  rfl
theorem kit_int_str : kitB "int" "str" = some false := by decide +kernel
@[simp] theorem gIsi_str_i' {i : Int} : gIsi "str" (.int i) = some (.val (.bool false)) := by
  show (if isDct (.int i) = true then none else (kitB "int" "str").map fun b => T.val (.bool b)) = _
  rw [kit_int_str]
  rfl
theorem kit_str_str : kitB "str" "str" = some true := by decide +kernel
@[simp] theorem gIsi_str_s {x : Str} : gIsi "str" (.str x) = some (.val (.bool true)) := by
  show (if isDct (.str x) = true then none else (kitB "str" "str").map fun b => T.val (.bool b)) = _
  rw [kit_str_str]
  rfl
theorem kit_list_str : kitB "list" "str" = some false := by decide +kernel
@[simp] theorem gIsi_str_l {xs : List D} : gIsi "str" (.list xs) = some (.val (.bool false)) := by
  show (if isDct (.list xs) = true then none else (kitB "list" "str").map fun b => T.val (.bool b)) = _
  rw [kit_list_str]
  rfl
theorem kit_tuple_str : kitB "tuple" "str" = some false := by decide +kernel
@[simp] theorem gIsi_str_t {xs : List D} : gIsi "str" (.tuple xs) = some (.val (.bool false)) := by
  show (if isDct (.tuple xs) = true then none else (kitB "tuple" "str").map fun b => T.val (.bool b)) = _
  rw [kit_tuple_str]
  rfl
theorem kit_none_tuple : kitB "NoneType" "tuple" = some false := by decide +kernel
@[simp] theorem gIsi_tuple_n  : gIsi "tuple" (.none) = some (.val (.bool false)) := by
  show (if isDct (.none) = true then none else (kitB "NoneType" "tuple").map fun b => T.val (.bool b)) = _
  rw [kit_none_tuple]
  rfl
theorem kit_bool_tuple : kitB "bool" "tuple" = some false := by decide +kernel
@[simp] theorem gIsi_tuple_b {b : Bool} : gIsi "tuple" (.bool b) = some (.val (.bool false)) := by
  show (if isDct (.bool b) = true then none else (kitB "bool" "tuple").map fun b => T.val (.bool b)) = _
  rw [kit_bool_tuple]
  rfl
theorem kit_int_tuple : kitB "int" "tuple" = some false := by decide +kernel
@[simp] theorem gIsi_tuple_i' {i : Int} : gIsi "tuple" (.int i) = some (.val (.bool false)) := by
  show (if isDct (.int i) = true then none else (kitB "int" "tuple").map fun b => T.val (.bool b)) = _
  rw [kit_int_tuple]
  rfl
theorem kit_str_tuple : kitB "str" "tuple" = some false := by decide +kernel
@[simp] theorem gIsi_tuple_s {x : Str} : gIsi "tuple" (.str x) = some (.val (.bool false)) := by
  show (if isDct (.str x) = true then none else (kitB "str" "tuple").map fun b => T.val (.bool b)) = _
  rw [kit_str_tuple]
  rfl
theorem kit_list_tuple : kitB "list" "tuple" = some false := by decide +kernel
@[simp] theorem gIsi_tuple_l {xs : List D} : gIsi "tuple" (.list xs) = some (.val (.bool false)) := by
  show (if isDct (.list xs) = true then none else (kitB "list" "tuple").map fun b => T.val (.bool b)) = _
  rw [kit_list_tuple]
  rfl
theorem kit_tuple_tuple : kitB "tuple" "tuple" = some true := by decide +kernel
@[simp] theorem gIsi_tuple_t {xs : List D} : gIsi "tuple" (.tuple xs) = some (.val (.bool true)) := by
  show (if isDct (.tuple xs) = true then none else (kitB "tuple" "tuple").map fun b => T.val (.bool b)) = _
  rw [kit_tuple_tuple]
  rfl
theorem kit_none_list : kitB "NoneType" "list" = some false := by decide +kernel
@[simp] theorem gIsi_list_n  : gIsi "list" (.none) = some (.val (.bool false)) := by
  show (if isDct (.none) = true then none else (kitB "NoneType" "list").map fun b => T.val (.bool b)) = _
  rw [kit_none_list]
  rfl
theorem kit_bool_list : kitB "bool" "list" = some false := by decide +kernel
@[simp] theorem gIsi_list_b {b : Bool} : gIsi "list" (.bool b) = some (.val (.bool false)) := by
  show (if isDct (.bool b) = true then none else (kitB "bool" "list").map fun b => T.val (.bool b)) = _
  rw [kit_bool_list]
  rfl
theorem kit_int_list : kitB "int" "list" = some false := by decide +kernel
@[simp] theorem gIsi_list_i' {i : Int} : gIsi "list" (.int i) = some (.val (.bool false)) := by
  show (if isDct (.int i) = true then none else (kitB "int" "list").map fun b => T.val (.bool b)) = _
  rw [kit_int_list]
  rfl
theorem kit_str_list : kitB "str" "list" = some false := by decide +kernel
@[simp] theorem gIsi_list_s {x : Str} : gIsi "list" (.str x) = some (.val (.bool false)) := by
  show (if isDct (.str x) = true then none else (kitB "str" "list").map fun b => T.val (.bool b)) = _
  rw [kit_str_list]
  rfl
theorem kit_list_list : kitB "list" "list" = some true := by decide +kernel
@[simp] theorem gIsi_list_l {xs : List D} : gIsi "list" (.list xs) = some (.val (.bool true)) := by
  show (if isDct (.list xs) = true then none else (kitB "list" "list").map fun b => T.val (.bool b)) = _
  rw [kit_list_list]
  rfl
theorem kit_tuple_list : kitB "tuple" "list" = some false := by decide +kernel
@[simp] theorem gIsi_list_t {xs : List D} : gIsi "list" (.tuple xs) = some (.val (.bool false)) := by
  show (if isDct (.tuple xs) = true then none else (kitB "tuple" "list").map fun b => T.val (.bool b)) = _
  rw [kit_tuple_list]
  rfl

/-- data that == takes: without dicts, at most 64 deep -/
@[simp] theorem eqOk_n : eqOk .none = true := rfl
@[simp] theorem eqOk_b {b : Bool} : eqOk (.bool b) = true := rfl
@[simp] theorem eqOk_i {b : Int} : eqOk (.int b) = true := rfl
@[simp] theorem eqOk_s {b : Str} : eqOk (.str b) = true := rfl
@[simp] theorem g_eq_b {a b : Bool} : gEq false (.bool a) (.bool b) = some (.val (.bool (a == b))) := rfl
@[simp] theorem g_ne_b {a b : Bool} : gEq true (.bool a) (.bool b) = some (.val (.bool (!(a == b)))) := rfl
theorem g_eq {neg : Bool} {a b : D} (h1 : eqOk a = true) (h2 : eqOk b = true) : gEq neg a b = some (.val (.bool (if neg then !PyData.eqv a b else PyData.eqv a b))) := by
  unfold gEq
  rw [h1, h2]
  rfl
@[simp] theorem g_eq_s {a b : Str} : gEq false (.str a) (.str b) = some (.val (.bool (decide (a = b)))) := by
  show some (T.val (.bool (PyData.eqv (.str a) (.str b)))) = _
  simp [PyData.eqv]
  try rfl
@[simp] theorem g_ne_s {a b : Str} : gEq true (.str a) (.str b) = some (.val (.bool (decide (a ≠ b)))) := by
  show some (T.val (.bool (!PyData.eqv (.str a) (.str b)))) = _
  simp [PyData.eqv]
  try rfl
@[simp] theorem eqv_n : PyData.eqv .none .none = true := rfl
@[simp] theorem eqv_i {a b : Int} : PyData.eqv (.int a) (.int b) = decide (a = b) := by
  simp [PyData.eqv]
  try rfl
@[simp] theorem eqv_s {a b : Str} : PyData.eqv (.str a) (.str b) = decide (a = b) := by
  simp [PyData.eqv]
  try rfl
@[simp] theorem eqv_b {a b : Bool} : PyData.eqv (.bool a) (.bool b) = (a == b) := rfl
@[simp] theorem eqv_t {a b : List D} : PyData.eqv (.tuple a) (.tuple b) = PyData.eqvAll a b := rfl
@[simp] theorem eqv_l {a b : List D} : PyData.eqv (.list a) (.list b) = PyData.eqvAll a b := rfl
@[simp] theorem eqvAll_nil : PyData.eqvAll [] [] = true := rfl
@[simp] theorem eqvAll_cons {x y : D} {a b : List D} : PyData.eqvAll (x :: a) (y :: b) = (PyData.eqv x y && PyData.eqvAll a b) := rfl
@[simp] theorem eqvAll_nc {y : D} {b : List D} : PyData.eqvAll [] (y :: b) = false := rfl
@[simp] theorem eqvAll_cn {y : D} {b : List D} : PyData.eqvAll (y :: b) [] = false := rfl
/-! ### all, any over tests -/
theorem boolsOf_m {α : Type} (p : α → Bool) (xs : List α) : boolsOf (xs.map fun d => PyData.bool (p d)) = some (xs.map p) := by
  have e : (xs.map fun d => PyData.bool (p d)) = (xs.map p).map PyData.bool := by rw [List.map_map]; rfl
  rw [e, boolsOf_map]
@[simp] theorem g_all_m {α : Type} {p : α → Bool} {xs : List α} : gAll [.list (xs.map fun d => PyData.bool (p d))] = some (.val (.bool (xs.all p))) := by
  show (boolsOf _).map _ = _
  rw [boolsOf_m]
  simp [List.all_map]
@[simp] theorem g_any_m {α : Type} {p : α → Bool} {xs : List α} : gAny [.list (xs.map fun d => PyData.bool (p d))] = some (.val (.bool (xs.any p))) := by
  show (boolsOf _).map _ = _
  rw [boolsOf_m]
  simp [List.any_map]
/-! ### dicts -/
@[simp] theorem e_dnew {q : Bool} {ρ : En} {S : Sto} : cDNew q ρ S = .ok (.ownd q []) S := rfl
@[simp] theorem e_disp {ks : List Key} {fs : SU} {ρ : En} {S : Sto} : cDisp ks fs ρ S = R.l (fs ρ S) fun ds S1 => if ds.length = ks.length then .ok (.ownd false (dDisp [] ks ds)) S1 else .bad := rfl
@[simp] theorem e_get1 {f1 f2 : SE} {ρ : En} {S : Sto} : cGet1 f1 f2 ρ S = R.d (f1 ρ S) fun d S1 => match d with
  | .dict kvs => if (unD kvs).1 = true then .bad else R.d (f2 ρ S1) fun kd S2 => (match gGet kvs kd .none with | some t => .ok t S2 | none => .bad)
  | _ => .bad := rfl
@[simp] theorem e_get2 {f1 f2 f3 : SE} {ρ : En} {S : Sto} : cGet2 f1 f2 f3 ρ S = R.d (f1 ρ S) fun d S1 => match d with
  | .dict kvs => if (unD kvs).1 = true then .bad else R.d (f2 ρ S1) fun kd S2 => R.d (f3 ρ S2) fun x S3 => (match gGet kvs kd x with | some t => .ok t S3 | none => .bad)
  | _ => .bad := rfl
@[simp] theorem unD_i {i : Int} {d : D} {r : List (D × D)} : unD ((.int i, d) :: r) = (false, (.int i, d) :: r) := rfl
@[simp] theorem unD_s {i : Str} {d : D} {r : List (D × D)} : unD ((.str i, d) :: r) = (false, (.str i, d) :: r) := rfl
@[simp] theorem unD_nil : unD [] = (false, []) := rfl
@[simp] theorem e_d_ownd {q : Bool} {kvs : List (D × D)} {S : Sto} {k : D → Sto → R T} : R.d (.ok (.ownd q kvs) S) k = k (.dict (mkD q kvs)) S := rfl
@[simp] theorem e_asD_ownd {q : Bool} {kvs : List (D × D)} : asD (.ownd q kvs) = some (.dict (mkD q kvs)) := rfl
@[simp] theorem e_asA_ownd {q : Bool} {kvs : List (D × D)} : asA (.ownd q kvs) = .val (.dict (mkD q kvs)) := rfl
@[simp] theorem e_mkD {kvs : List (D × D)} : mkD false kvs = kvs := rfl
@[simp] theorem key_i {i : Int} : keyOf (.int i) = some (.inl (.inl i)) := rfl
@[simp] theorem key_s {x : Str} : keyOf (.str x) = some (.inl (.inr x)) := rfl
def selB (o : Option T) (X : R T) (S : Sto) : R T := match o with
  | some (.val (.bool true)) => X
  | some (.val (.bool false)) => .ok (.val (.bool false)) S
  | _ => .bad
@[simp] theorem selB_b {b : Bool} {X : R T} {S : Sto} : selB (some (.val (.bool b))) X S = if b = true then X else .ok (.val (.bool false)) S := by cases b <;> rfl
@[simp] theorem e_chain {g g' : D → D → Option T} {f1 f2 f3 : SE} {ρ : En} {S : Sto} : cChain g g' f1 f2 f3 ρ S = R.d (f1 ρ S) fun x S1 => R.d (f2 ρ S1) fun y S2 => selB (g x y) (R.d (f3 ρ S2) fun z S3 => (match g' y z with | some t => .ok t S3 | none => .bad)) S2 := rfl
@[simp] theorem if_okB {p : Prop} [Decidable p] {c : Bool} {S : Sto} : (if p then R.ok (T.val (.bool c)) S else R.ok (T.val (.bool false)) S) = R.ok (T.val (.bool (decide p && c))) S := by
  by_cases h : p
  · rw [if_pos h, decide_eq_true h, Bool.true_and]
  · rw [if_neg h, decide_eq_false h, Bool.false_and]
@[simp] theorem isDct_n : isDct .none = false := rfl
@[simp] theorem isDct_b {b : Bool} : isDct (.bool b) = false := rfl
@[simp] theorem isDct_i {b : Int} : isDct (.int b) = false := rfl
@[simp] theorem isDct_s {b : Str} : isDct (.str b) = false := rfl
@[simp] theorem isDct_l {b : List D} : isDct (.list b) = false := rfl
@[simp] theorem isDct_t {b : List D} : isDct (.tuple b) = false := rfl
theorem lcM_mapv {b : BT1} {elt : SE} {ρ : En} {S : Sto} (f : D → D) (ds : List D) (h : ∀ d ∈ ds, ∃ ρ1, b d ρ = some ρ1 ∧ elt ρ1 S = .ok (.val (f d)) S) : lcM b bYes elt ρ ds S = .ok (ds.map f) S :=
  lcM_map f ds fun d hd => by
    obtain ⟨ρ1, e1, e2⟩ := h d hd
    exact ⟨ρ1, _, e1, e2, rfl⟩
theorem gGet_mem {kvs : List (D × D)} {kd x : D} {k : Key} (hu : unD kvs = (false, kvs)) (hk : keyOf kd = some (.inl k)) : ∃ d, gGet kvs kd x = some (.val d) ∧ (d = x ∨ d ∈ kvs.map (·.2)) := by
  unfold gGet dAt
  rw [hk, hu]
  simp only [fits, if_true, Option.map_some]
  cases e : dget kvs (.inl k) with
  | none => exact ⟨x, rfl, .inl rfl⟩
  | some d =>
    refine ⟨d, rfl, .inr ?_⟩
    unfold dget at e
    cases e2 : kvs.find? fun p => decide (keyOf p.1 = some (.inl k)) with
    | none => rw [e2] at e; cases e
    | some p =>
      rw [e2] at e
      cases e
      exact List.mem_map.mpr ⟨p, List.mem_of_find?_eq_some e2, rfl⟩
@[simp] theorem flat_n : flatD .none = true := rfl
@[simp] theorem flat_b {b : Bool} : flatD (.bool b) = true := rfl
@[simp] theorem flat_i {b : Int} : flatD (.int b) = true := rfl
@[simp] theorem flat_s {b : Str} : flatD (.str b) = true := rfl
theorem gIn_l {neg : Bool} {a : D} {ds : List D} (h1 : flatD a = true) (h2 : ds.all flatD = true) : gIn neg a (.list ds) = some (.val (.bool (if neg then !(ds.any fun d => PyData.eqv d a) else ds.any fun d => PyData.eqv d a))) := by
  cases a <;> first | (unfold gIn; simp only [h1, h2, Bool.and_true, Bool.true_or, if_true]; done) | cases h1
theorem gIn_t {neg : Bool} {a : D} {ds : List D} (h1 : flatD a = true) (h2 : ds.all flatD = true) : gIn neg a (.tuple ds) = some (.val (.bool (if neg then !(ds.any fun d => PyData.eqv d a) else ds.any fun d => PyData.eqv d a))) := by
  cases a <;> first | (unfold gIn; simp only [h1, h2, Bool.and_true, Bool.true_or, if_true]; done) | cases h1
/-- in, not in: of any data without dicts -/
theorem gIn_lq {neg : Bool} {a : D} {ds : List D} (h1 : eqOk a = true) (h2 : eqOk (.list ds) = true) : gIn neg a (.list ds) = some (.val (.bool (if neg then !(ds.any fun d => PyData.eqv d a) else ds.any fun d => PyData.eqv d a))) := by
  have h : ((flatD a && ds.all flatD) || (eqOk a && eqOk (.list ds))) = true := by rw [h1, h2]; simp
  cases a <;> first | (unfold gIn; simp only [h, if_true]; done) | cases h1
theorem gIn_tq {neg : Bool} {a : D} {ds : List D} (h1 : eqOk a = true) (h2 : eqOk (.tuple ds) = true) : gIn neg a (.tuple ds) = some (.val (.bool (if neg then !(ds.any fun d => PyData.eqv d a) else ds.any fun d => PyData.eqv d a))) := by
  have h : ((flatD a && ds.all flatD) || (eqOk a && eqOk (.tuple ds))) = true := by rw [h1, h2]; simp
  cases a <;> first | (unfold gIn; simp only [h, if_true]; done) | cases h1
theorem g_add_l {xs ys : List D} (h : xs.length + ys.length ≤ sizeLine) : gAdd (.list xs) (.list ys) = some (.own (xs ++ ys)) := by
  show (if xs.length + ys.length ≤ sizeLine then _ else _) = _
  rw [if_pos h]
theorem g_add_t {xs ys : List D} (h : xs.length + ys.length ≤ sizeLine) : gAdd (.tuple xs) (.tuple ys) = some (.val (.tuple (xs ++ ys))) := by
  show (if xs.length + ys.length ≤ sizeLine then _ else _) = _
  rw [if_pos h]
/-! ### and, or: as choices -/
def andS (o : Option Bool) (d : D) (X : R T) (S : Sto) : R T := match o with
  | some true => X
  | some false => .ok (.val d) S
  | none => .bad
def orS (o : Option Bool) (d : D) (X : R T) (S : Sto) : R T := match o with
  | some false => X
  | some true => .ok (.val d) S
  | none => .bad
@[simp] theorem andS_b {b : Bool} {d : D} {X : R T} {S : Sto} : andS (some b) d X S = if b = true then X else .ok (.val d) S := by cases b <;> rfl
@[simp] theorem orS_b {b : Bool} {d : D} {X : R T} {S : Sto} : orS (some b) d X S = if b = true then .ok (.val d) S else X := by cases b <;> rfl
@[simp high] theorem e_vAnd' {f1 f2 : SE} {ρ : En} {S : Sto} : vAnd f1 f2 ρ S = R.d (f1 ρ S) fun d S1 => andS (truD d) d (f2 ρ S1) S1 := rfl
@[simp high] theorem e_vOr' {f1 f2 : SE} {ρ : En} {S : Sto} : vOr f1 f2 ρ S = R.d (f1 ρ S) fun d S1 => orS (truD d) d (f2 ρ S1) S1 := rfl
@[simp] theorem if_andB {b c : Bool} {S : Sto} : (if b = true then R.ok (T.val (.bool c)) S else R.ok (T.val (.bool b)) S) = R.ok (T.val (.bool (b && c))) S := by cases b <;> rfl
@[simp] theorem if_orB {b c : Bool} {S : Sto} : (if b = true then R.ok (T.val (.bool b)) S else R.ok (T.val (.bool c)) S) = R.ok (T.val (.bool (b || c))) S := by cases b <;> rfl
@[simp] theorem if_andP {p : Prop} [Decidable p] {c : Bool} {S : Sto} : (if p then R.ok (T.val (.bool c)) S else R.ok (T.val (.bool (decide p))) S) = R.ok (T.val (.bool (decide p && c))) S := by
  by_cases h : p <;> simp [h]
@[simp] theorem if_orP {p : Prop} [Decidable p] {c : Bool} {S : Sto} : (if p then R.ok (T.val (.bool (decide p))) S else R.ok (T.val (.bool c)) S) = R.ok (T.val (.bool (decide p || c))) S := by
  by_cases h : p <;> simp [h]
/-! ### taking apart -/
@[simp] theorem e_bTup {n : Nat} {bs : BTs} {ds : List D} {ρ : En} : bTup n bs (.tuple ds) ρ = if ds.length = n then bs ds ρ else none := rfl
@[simp] theorem e_bTupL {n : Nat} {bs : BTs} {ds : List D} {ρ : En} : bTup n bs (.list ds) ρ = if ds.length = n then bs ds ρ else none := rfl
@[simp] theorem e_bCons {b : BT1} {bs : BTs} {d : D} {r : List D} {ρ : En} : bCons b bs (d :: r) ρ = (b d ρ).bind (bs r) := rfl
@[simp] theorem e_bNil {ρ : En} : bNil [] ρ = some ρ := rfl
@[simp] theorem e_asgG {b : BT1} {f : SE} {ρ : En} {S : Sto} : sAsgG b f ρ S = sE f (fun t ρ S => match asD t with
  | some d => (match b d ρ with | some ρ' => .nx ρ' S | none => .bad)
  | none => .bad) ρ S := rfl
@[simp] theorem at_0 {α : Type} {x : α} {xs : List α} : atI (x :: xs) 0 = some x := atI_nat (i := 0) rfl
@[simp] theorem at_1 {α : Type} {x y : α} {xs : List α} : atI (x :: y :: xs) 1 = some y := atI_nat (i := 1) rfl
@[simp] theorem at_2 {α : Type} {x y z : α} {xs : List α} : atI (x :: y :: z :: xs) 2 = some z := atI_nat (i := 2) rfl
@[simp] theorem at_3 {α : Type} {x y z w : α} {xs : List α} : atI (x :: y :: z :: w :: xs) 3 = some w := atI_nat (i := 3) rfl
@[simp] theorem at_4 {α : Type} {x y z w u : α} {xs : List α} : atI (x :: y :: z :: w :: u :: xs) 4 = some u := atI_nat (i := 4) rfl
@[simp] theorem if_andPP {p q : Prop} [Decidable p] [Decidable q] {c : Bool} {S : Sto} : (if p ∧ q then R.ok (T.val (.bool c)) S else R.ok (T.val (.bool (decide p && decide q))) S) = R.ok (T.val (.bool (decide p && (decide q && c)))) S := by
  by_cases h : p <;> by_cases h2 : q <;> simp [h, h2]
@[simp] theorem if_orPP {p q : Prop} [Decidable p] [Decidable q] {c : Bool} {S : Sto} : (if p ∨ q then R.ok (T.val (.bool (decide p || decide q))) S else R.ok (T.val (.bool c)) S) = R.ok (T.val (.bool (decide p || (decide q || c)))) S := by
  by_cases h : p <;> by_cases h2 : q <;> simp [h, h2]
/-! ### steps -/
theorem runs_rt {g1 g2 : SS} {ρ : En} {S S1 : Sto} {t : T} (h : g1 ρ S = .rt t S1) : sSeq g1 g2 ρ S = .rt t S1 := by rw [e_seq, h, e_then_rt]
theorem if_t {b : SB} {g1 g2 : SS} {ρ : En} {S S1 : Sto} {r : Fl} (h : b ρ S = .ok true S1) (h1 : g1 ρ S1 = r) : sIf b g1 g2 ρ S = r := by rw [e_if, h]; exact h1
theorem if_f {b : SB} {g1 g2 : SS} {ρ : En} {S S1 : Sto} {r : Fl} (h : b ρ S = .ok false S1) (h1 : g2 ρ S1 = r) : sIf b g1 g2 ρ S = r := by rw [e_if, h]; exact h1
theorem line100 {n : Nat} (h : n ≤ 100) : n ≤ sizeLine := Nat.le_trans h (by decide)
/-! ### raise -/
@[simp] theorem e_raise {x : Str} {ρ : En} {S : Sto} : sRaise x ρ S = .ex ⟨x, none⟩ ρ S := rfl
@[simp] theorem e_raise0 {x f : Str} {ρ : En} {S : Sto} : sRaise0 x f ρ S = .ex ⟨x, some (f, .none)⟩ ρ S := rfl
@[simp] theorem e_raiseF {x f : Str} {fe : SE} {ρ : En} {S : Sto} : sRaiseF x f fe ρ S = sD fe (fun d ρ S => if excD d = true then .ex ⟨x, some (f, d)⟩ ρ S else .bad) ρ S := rfl
/-! ### sorted -/
@[simp] theorem g_sorted_i {ns : List Int} : gSorted [.list (ns.map PyData.int)] = some (.own ((sortI ns).map PyData.int)) := by
  simp only [gSorted, intsOf_map]
theorem g_sorted_s {xs : List Str} (h : xs.length < 64) : gSorted [.list (xs.map PyData.str)] = some (.own ((sortS xs).map PyData.str)) := by
  cases xs with
  | nil => rfl
  | cons x xs =>
    have e : intsOf ((x :: xs).map PyData.str) = none := rfl
    simp only [gSorted, e, strsOf_map, if_pos h]
end BV
/-! The program: whole numbers, bounds, sizes, places, signs. -/
namespace BV
open PySem L2

def g_is_whole : SS := sRet (vAnd (cUn (gIsi "int") (cVarU 0)) (vNot (cUn (gIsi "bool") (cVarU 0))))
def sem_is_whole : Fn := fnL 1 g_is_whole
def g_is_from : SS := sRet (vAnd (cCall sem_is_whole (aCons (cVar 0) aNil)) (cChain gLe gLe (cVarU 1) (cVarU 0) (cVarU 2)))
def sem_is_from : Fn := fnL 3 g_is_from
def g_is_size : SS := sSeq (sIf (bOr (bNot (cT (cUn (gIsi "tuple") (cVarU 0)))) (cB (cBin (gEq true) (cB1 gLen (uCons (cVarU 0) uNil)) (cC (.int 2))))) (sRet (cC (.bool false))) sSkip)
    (sRet (cB1 gAll (uCons (cLc (cSeq (cVarU 0)) (bName 1) bYes (cCall sem_is_from (aCons (cVar 1) (aCons (cC (.int 2)) (aCons (cC (.int 15)) aNil)))) [1]) uNil)))
def sem_is_size : Fn := fnL 2 g_is_size
/-- a whole number, no truth -/
def isI : D → Bool
  | .int _ => true
  | _ => false
theorem whole_spec {d : D} {S : Sto} (h : isDct d = false) : sem_is_whole [.val d] S = .ok (.val (.bool (isI d))) S := by
  unfold sem_is_whole
  refine fn_rt ?_
  cases d <;> first | (simp [g_is_whole, isI]; done) | cases h
def inB (a b : Int) : D → Bool
  | .int i => decide (a ≤ i) && decide (i ≤ b)
  | _ => false
theorem from_spec {d : D} {a b : Int} {S : Sto} (h : isDct d = false) : sem_is_from [.val d, .val (.int a), .val (.int b)] S = .ok (.val (.bool (inB a b d))) S := by
  unfold sem_is_from
  refine fn_rt ?_
  have e := whole_spec (S := S) h
  cases d with
  | dict _ => cases h
  | _ => simp [g_is_from, e, isI, inB]
theorem inB_int {a b i : Int} : inB a b (.int i) = (decide (a ≤ i) && decide (i ≤ b)) := rfl
/-- no dict, none among its things -/
def pl1 : D → Bool
  | .tuple ds => ds.all fun d => !isDct d
  | .dict _ => false
  | _ => true
def sizeB : D → Bool
  | .tuple ds => decide (ds.length = 2) && ds.all (inB 2 15)
  | _ => false
theorem size_spec {d : D} {S : Sto} (h : pl1 d = true) : sem_is_size [.val d] S = .ok (.val (.bool (sizeB d))) S := by
  unfold sem_is_size
  refine fn_rt ?_
  cases d with
  | dict _ => cases h
  | tuple ds =>
    by_cases hl : ds.length = 2
    · have e := lcM_mapv (b := bName 1) (elt := cCall sem_is_from (aCons (cVar 1) (aCons (cC (.int 2)) (aCons (cC (.int 15)) aNil)))) (S := S) (ρ := [some (.val (.tuple ds)), none]) (fun d => .bool (inB 2 15 d)) ds (by
        intro d hd
        have hd' : isDct d = false := by have := List.all_eq_true.mp h d hd; simpa using this
        exact ⟨_, rfl, by simp [from_spec hd']⟩)
      simp [g_is_size, hl, e, sizeB]
    · have : ¬ (ds.length : Int) = 2 := by omega
      simp [g_is_size, hl, this, sizeB]
  | _ => simp [g_is_size, sizeB]
theorem noDict_isDct {d : D} (h : noDict d = true) : isDct d = false := by cases d <;> first | rfl | cases h
theorem noDicts_mem : ∀ {ds : List D}, noDicts ds = true → ∀ d ∈ ds, noDict d = true
  | d :: ds, h, e, he => by
    rw [noDicts, Bool.and_eq_true] at h
    rcases List.mem_cons.mp he with q | q
    · rw [q]; exact h.1
    · exact noDicts_mem h.2 e q
theorem noDict_t {ds : List D} (h : noDict (.tuple ds) = true) : ∀ d ∈ ds, noDict d = true := noDicts_mem h
theorem noDict_pl1 {d : D} (h : noDict d = true) : pl1 d = true := by
  cases d with
  | tuple ds => exact List.all_eq_true.mpr fun d hd => by simp [noDict_isDct (noDict_t h d hd)]
  | dict _ => cases h
  | _ => rfl
end BV
/-! The program: names, cells, shapes, cases. -/
namespace BV
open PySem L2

def g_is_name : SS := sSeq (sIf (bOr (bNot (cT (cUn (gIsi "str") (cVarU 0)))) (bNot (cB (cChain gLe gLe (cC (.int 1)) (cB1 gLen (uCons (cVarU 0) uNil)) (cC (.int 3)))))) (sRet (cC (.bool false))) sSkip)
    (sRet (cB1 gAll (uCons (cLc (cSeq (cVarU 0)) (bName 1) bYes (cBin (gIn false) (cVarU 1) (cC (.str "abcdefghijklmnopqrstuvwxyz"))) [1]) uNil)))
def sem_is_name : Fn := fnL 2 g_is_name
def g_is_cell : SS := sSeq (sIf (bOr (bNot (cT (cUn (gIsi "tuple") (cVarU 0)))) (bOr (cB (cBin (gEq true) (cB1 gLen (uCons (cVarU 0) uNil)) (cC (.int 2)))) (bNot (cT (cCall sem_is_from (aCons (cBin gIx (cVarU 0) (cC (.int 1))) (aCons (cUn gNeg (cC (.int 1))) (aCons (cC (.int 1)) aNil)))))))) (sRet (cC (.bool false))) sSkip)
    (sSeq (sIf (bNot (cT (cUn (gIsi "str") (cBin gIx (cVarU 0) (cC (.int 0)))))) (sRet (cC (.bool false))) sSkip)
    (sRet (vOr (cCall sem_is_name (aCons (cBin gIx (cVarU 0) (cC (.int 0))) aNil)) (vAnd (cBin (gEq false) (cBin gIx (cVarU 0) (cC (.int 0))) (cC (.str " "))) (cBin (gEq false) (cBin gIx (cVarU 0) (cC (.int 1))) (cC (.int 0)))))))
def sem_is_cell : Fn := fnL 1 g_is_cell
def g_is_shape : SS := sSeq (sIf (bOr (bNot (cT (cUn (gIsi "tuple") (cVarU 0)))) (cB (cBin (gEq true) (cB1 gLen (uCons (cVarU 0) uNil)) (cC (.int 2))))) (sRet (cC (.bool false))) sSkip)
    (sSeq (sAsgG (bTup 2 (bCons (bName 1) (bCons (bName 2) bNil))) (cVar 0))
    (sSeq (sIf (bOr (bNot (cT (cUn (gIsi "tuple") (cVarU 1)))) (bOr (bNot (cT (cUn (gIsi "tuple") (cVarU 2)))) (cB (cBin (gEq true) (cB1 gLen (uCons (cVarU 1) uNil)) (cB1 gLen (uCons (cVarU 2) uNil)))))) (sRet (cC (.bool false))) sSkip)
    (sSeq (sIf (bOr (bNot (cB (cChain gLe gLe (cC (.int 2)) (cB1 gLen (uCons (cVarU 1) uNil)) (cC (.int 15))))) (bNot (cT (cB1 gAll (uCons (cLc (cSeq (cVarU 2)) (bName 4) bYes (cUn (gIsi "tuple") (cVarU 4)) [4]) uNil))))) (sRet (cC (.bool false))) sSkip)
    (sSeq (sAsg 3 (cB1 gLen (uCons (cBin gIx (cVarU 2) (cC (.int 0))) uNil)))
    (sRet (vAnd (cChain gLe gLe (cC (.int 2)) (cVarU 3) (cC (.int 15))) (cB1 gAll (uCons (cLc (cSeq (cVarU 2)) (bName 4) bYes (cBin (gEq false) (cB1 gLen (uCons (cVarU 4) uNil)) (cVarU 3)) [4]) uNil))))))))
def sem_is_shape : Fn := fnL 5 g_is_shape
def b1_is_case : SS := sIf (cB (cUn gNotN (cVarU 4))) (sSeq (sIf (bOr (bNot (cT (cCall sem_is_cell (aCons (cVar 4) aNil)))) (bOr (cB (cBin (gIn false) (cBin gIx (cVarU 4) (cC (.int 0))) (cVarU 1))) (cB (cBin (gEq false) (cBin gAdd (cVarU 2) (cBin gIx (cVarU 4) (cC (.int 1)))) (cC (.int 0)))))) (sRet (cC (.bool false))) sSkip)
    (sSet 1 (cBin gIx (cVarU 4) (cC (.int 0))) (cC (.bool true)))) sSkip
def b2_is_case : SS := sFor (cSeq (cVar 3)) (bName 4) b1_is_case
def g_is_case : SS := sSeq (sIf (bOr (bNot (cT (cCall sem_is_shape (aCons (cVar 0) aNil)))) (bNot (cT (cB1 gAll (uCons (cLc (cSeq (cBin gIx (cVarU 0) (cC (.int 0)))) (bName 2) bYes (cCall sem_is_from (aCons (cVar 2) (aCons (cC (.int 1)) (aCons (cC (.int 30)) aNil)))) [2]) uNil))))) (sRet (cC (.bool false))) sSkip)
    (sSeq (sAsg 1 (cDNew false))
    (sSeq (sFor (cRng gZip (uCons (cBin gIx (cVarU 0) (cC (.int 0))) (uCons (cBin gIx (cVarU 0) (cC (.int 1))) uNil))) (bTup 2 (bCons (bName 2) (bCons (bName 3) bNil))) b2_is_case)
    (sRet (cBin (gIn false) (cC (.str " ")) (cVarU 1)))))
def sem_is_case : Fn := fnL 5 g_is_case

/-! ### names -/
def letterC (c : Nat) : Bool := decide (97 ≤ c) && decide (c ≤ 122)
theorem abc_iff (c : Nat) : decide (c ∈ abc.cps.toList) = letterC c := by
  have h2 : ∀ k : Nat, k < 26 → 97 + k ∈ abc.cps.toList := by decide +kernel
  unfold letterC
  rw [Bool.eq_iff_iff]
  simp only [decide_eq_true_eq, Bool.and_eq_true]
  refine ⟨fun h => abc_mem c h, fun h => ?_⟩
  have := h2 (c - 97) (by omega)
  rwa [show 97 + (c - 97) = c by omega] at this
def nameB (x : Str) : Bool := decide (1 ≤ x.length) && decide (x.length ≤ 3) && x.cps.toList.all letterC
theorem gIn_letter {c : Nat} : gIn false (.str ⟨#[c]⟩) (.str "abcdefghijklmnopqrstuvwxyz") = some (.val (.bool (letterC c))) := by
  show (if (Str.length ⟨#[c]⟩) = 1 then some (T.val (.bool (decide (c ∈ abc.cps.toList)))) else none) = _
  rw [abc_iff]
  rfl
theorem lcM_str {b : BT1} {elt : SE} {ρ : En} {S : Sto} (p : Nat → Bool) (x : Str) (h : ∀ c, ∃ ρ1, b (.str ⟨#[c]⟩) ρ = some ρ1 ∧ elt ρ1 S = .ok (.val (.bool (p c))) S) :
    lcM b bYes elt ρ (x.cps.toList.map fun c => .str ⟨#[c]⟩) S = .ok (x.cps.toList.map fun c => .bool (p c)) S :=
  lcM_map2 (fun c => .str ⟨#[c]⟩) (fun c => .bool (p c)) x.cps.toList fun c _ => by
    obtain ⟨ρ1, e1, e2⟩ := h c
    exact ⟨ρ1, _, e1, e2, rfl⟩
theorem isname_spec {x : Str} {S : Sto} : sem_is_name [.val (.str x)] S = .ok (.val (.bool (nameB x))) S := by
  unfold sem_is_name
  refine fn_rt ?_
  have e := lcM_str (b := bName 1) (elt := cBin (gIn false) (cVarU 1) (cC (.str "abcdefghijklmnopqrstuvwxyz"))) (ρ := [some (.val (.str x)), none]) (S := S) letterC x (fun c => ⟨_, rfl, by simp [gIn_letter]⟩)
  unfold nameB
  by_cases h1 : 1 ≤ x.length
  · by_cases h2 : x.length ≤ 3
    · have h1' : (1 : Int) ≤ x.length := by omega
      have h2' : (x.length : Int) ≤ 3 := by omega
      simp [g_is_name, h1, h2, h1', h2', e]
    · have h1' : (1 : Int) ≤ x.length := by omega
      have h2' : ¬ (x.length : Int) ≤ 3 := by omega
      simp [g_is_name, h2, h1', h2']
  · have h1' : ¬ (1 : Int) ≤ x.length := by omega
    simp [g_is_name, h1, h1']
theorem isname_else {d : D} {S : Sto} (h : isDct d = false) (h2 : ∀ x, d ≠ .str x) : sem_is_name [.val d] S = .ok (.val (.bool false)) S := by
  unfold sem_is_name
  refine fn_rt ?_
  cases d with
  | str x => exact absurd rfl (h2 x)
  | dict _ => cases h
  | _ => simp [g_is_name]
/-! ### cells -/
def cellOk (x : Str) (c : Int) : Bool := decide (-1 ≤ c) && decide (c ≤ 1) && (nameB x || decide (x = blank) && decide (c = 0))
def cellB : D → Bool
  | .tuple [.str x, .int c] => cellOk x c
  | _ => false
theorem blank_is : (Str.ofString " ") = blank := rfl
theorem iscell_spec {d : D} {S : Sto} (h : noDict d = true) : sem_is_cell [.val d] S = .ok (.val (.bool (cellB d))) S := by
  unfold sem_is_cell
  refine fn_rt ?_
  cases d with
  | dict _ => cases h
  | tuple ds =>
    match ds, h with
    | [], _ => simp [g_is_cell, cellB]
    | [a], _ => simp [g_is_cell, cellB]
    | a :: b :: c :: ds, _ =>
      have : ¬ (ds.length : Int) + 1 + 1 + 1 = 2 := by omega
      simp [g_is_cell, cellB, this]
    | [a, b], h =>
      have ha := noDict_isDct (noDict_t h a (by simp))
      have hb := noDict_isDct (noDict_t h b (by simp))
      have eb := from_spec (S := S) (a := -1) (b := 1) hb
      cases b with
      | int c =>
        rw [inB_int] at eb
        by_cases q1 : -1 ≤ c
        · by_cases q2 : c ≤ 1
          · cases a with
            | dict _ => cases ha
            | str x =>
              simp [g_is_cell, eb, q1, q2, cellB, cellOk, isname_spec, blank_is]
            | _ => simp [g_is_cell, eb, q1, q2, cellB]
          · simp only [q1, q2, decide_true, decide_false, Bool.and_false] at eb
            cases a <;> first | (simp [g_is_cell, eb, q1, q2, cellB, cellOk]; done) | cases ha
        · simp only [q1, decide_false, Bool.false_and] at eb
          cases a <;> first | (simp [g_is_cell, eb, q1, cellB, cellOk]; done) | cases ha
      | dict _ => cases hb
      | _ => 
        have eb' : sem_is_from [.val _, .val (.int (-1)), .val (.int 1)] S = .ok (.val (.bool false)) S := eb
        cases a <;> first | (simp [g_is_cell, eb', cellB]; done) | cases ha
  | _ => simp [g_is_cell, cellB]
end BV
/-! The program: shapes, cases. -/
namespace BV
open PySem L2

def isTup : D → Bool
  | .tuple _ => true
  | _ => false
def wideIs (w : Nat) : D → Bool
  | .tuple r => decide (r.length = w)
  | _ => false
def shapeB : D → Bool
  | .tuple [.tuple us, .tuple rows] => decide (us.length = rows.length) && decide (2 ≤ us.length) && decide (us.length ≤ 15) && rows.all isTup && (match rows with
    | .tuple r :: _ => decide (2 ≤ r.length) && decide (r.length ≤ 15) && rows.all (wideIs r.length)
    | _ => false)
  | _ => false
theorem gIsi_tuple_isT {d : D} (h : isDct d = false) : gIsi "tuple" d = some (.val (.bool (isTup d))) := by
  cases d <;> first | (simp [isTup]; done) | cases h
theorem isshape_spec {d : D} {S : Sto} (h : noDict d = true) : sem_is_shape [.val d] S = .ok (.val (.bool (shapeB d))) S := by
  unfold sem_is_shape
  refine fn_rt ?_
  cases d with
  | dict _ => cases h
  | tuple ds =>
    match ds, h with
    | [], _ => simp [g_is_shape, shapeB]
    | [a], _ => simp [g_is_shape, shapeB]
    | a :: b :: c :: ds, _ =>
      have : ¬ (ds.length : Int) + 1 + 1 + 1 = 2 := by omega
      simp [g_is_shape, shapeB, this]
    | [a, b], h =>
      have ha := noDict_isDct (noDict_t h a (by simp))
      have hb := noDict_isDct (noDict_t h b (by simp))
      cases a with
      | tuple us =>
        cases b with
        | tuple rows =>
          have hr := noDict_t (noDict_t h (.tuple rows) (by simp))
          by_cases h1 : us.length = rows.length
          · by_cases h2 : 2 ≤ us.length
            · by_cases h3 : us.length ≤ 15
              · have h2' : (2 : Int) ≤ rows.length := by omega
                have h3' : (rows.length : Int) ≤ 15 := by omega
                have e := lcM_mapv (b := bName 4) (elt := cUn (gIsi "tuple") (cVarU 4)) (S := S) (ρ := [some (.val (.tuple [.tuple us, .tuple rows])), some (.val (.tuple us)), some (.val (.tuple rows)), none, none]) (fun d => .bool (isTup d)) rows (by
                  intro d hd
                  refine ⟨_, rfl, ?_⟩
                  simp [gIsi_tuple_isT (noDict_isDct (hr d hd))])
                by_cases h4 : rows.all isTup = true
                · cases rows with
                  | nil => rw [List.length_nil] at h1; omega
                  | cons r rows =>
                    cases r with
                    | tuple r =>
                      have e2 := lcM_mapv (b := bName 4) (elt := cBin (gEq false) (cB1 gLen (uCons (cVarU 4) uNil)) (cVarU 3)) (S := S) (ρ := [some (.val (.tuple [.tuple us, .tuple (.tuple r :: rows)])), some (.val (.tuple us)), some (.val (.tuple (.tuple r :: rows))), some (.val (.int r.length)), none]) (fun d => .bool (wideIs r.length d)) (.tuple r :: rows) (by
                        intro d hd
                        refine ⟨_, rfl, ?_⟩
                        have ht := List.all_eq_true.mp h4 d hd
                        cases d with
                        | tuple q => simp [wideIs]; omega
                        | _ => cases ht)
                      generalize eR : PyData.tuple r :: rows = R at *
                      have z : atI R 0 = some (.tuple r) := by rw [← eR]; exact at_0
                      have h5 : (2 : Int) ≤ r.length ↔ 2 ≤ r.length := by omega
                      have h6 : (r.length : Int) ≤ 15 ↔ r.length ≤ 15 := by omega
                      have hs : shapeB (.tuple [.tuple us, .tuple R]) = (decide (2 ≤ r.length) && decide (r.length ≤ 15) && R.all (wideIs r.length)) := by
                        rw [← eR]
                        rw [← eR] at h4 h1
                        simp only [shapeB, h1, h4]
                        rw [h1] at h2 h3
                        simp only [h2, h3, decide_true, Bool.true_and]
                      rw [hs]
                      simp only [g_is_shape]
                      refine runs_seq (by simp; exact ⟨rfl, rfl⟩) ?_
                      refine runs_seq (by simp; exact ⟨rfl, rfl⟩) ?_
                      refine runs_seq (by simp [h1]; exact ⟨rfl, rfl⟩) ?_
                      refine runs_seq (by simp [h1, h2', h3', e, h4]; exact ⟨rfl, rfl⟩) ?_
                      refine runs_seq (by simp [z]; exact ⟨rfl, rfl⟩) ?_
                      simp [e2, h5, h6, Bool.and_assoc]
                    | _ => simp [isTup] at h4
                · have hs : shapeB (.tuple [.tuple us, .tuple rows]) = false := by simp [shapeB, h4]
                  rw [hs]
                  simp only [g_is_shape]
                  refine runs_seq (by simp; exact ⟨rfl, rfl⟩) ?_
                  refine runs_seq (by simp; exact ⟨rfl, rfl⟩) ?_
                  refine runs_seq (by simp [h1]; exact ⟨rfl, rfl⟩) ?_
                  have h4' : rows.all isTup = false := by simpa using h4
                  simp [h1, h2', h3', e, h4']
              · have hs : shapeB (.tuple [.tuple us, .tuple rows]) = false := by simp [shapeB, h3]
                have h3' : ¬ (rows.length : Int) ≤ 15 := by omega
                have h2' : (2 : Int) ≤ rows.length := by omega
                simp [g_is_shape, h1, h2', h3', hs]
            · have hs : shapeB (.tuple [.tuple us, .tuple rows]) = false := by simp [shapeB, h2]
              have h2' : ¬ (2 : Int) ≤ rows.length := by omega
              simp [g_is_shape, h1, h2', hs]
          · have hs : shapeB (.tuple [.tuple us, .tuple rows]) = false := by simp [shapeB, h1]
            have h1' : ¬ (us.length : Int) = rows.length := by omega
            simp [g_is_shape, h1', hs]
        | dict _ => cases hb
        | _ => simp [g_is_shape, shapeB]
      | dict _ => cases ha
      | _ => first | (cases b <;> first | (simp [g_is_shape, shapeB]; done) | cases hb)
  | _ => simp [g_is_shape, shapeB]
end BV
/-! Dicts whose keys are texts and numbers, as lists. -/
namespace BV
open PySem L2

def kvD (l : List (Key × D)) : List (D × D) := l.map fun p => (keyD p.1, p.2)
def kget (l : List (Key × D)) (k : Key) : Option D := (l.find? fun p => decide (p.1 = k)).map (·.2)
def kput (l : List (Key × D)) (k : Key) (v : D) : List (Key × D) := if l.any (fun p => decide (p.1 = k)) then l.map (fun p => if p.1 = k then (p.1, v) else p) else l ++ [(k, v)]
theorem keyOf_keyD (k : Key) : keyOf (keyD k) = some (.inl k) := by cases k <;> rfl
theorem keyOf_iff (k j : Key) : decide (keyOf (keyD k) = some (.inl j)) = decide (k = j) := by
  rw [keyOf_keyD]
  by_cases h : k = j
  · subst h; simp
  · have : ¬ (some (Sum.inl k : Key ⊕ List Key) = some (.inl j)) := fun z => h (by cases z; rfl)
    rw [decide_eq_false h, decide_eq_false this]
theorem unD_kvD (l : List (Key × D)) : unD (kvD l) = (false, kvD l) := by
  cases l with
  | nil => rfl
  | cons p l => exact unD_key p.1 p.2 _
theorem dget_kvD (l : List (Key × D)) (k : Key) : dget (kvD l) (.inl k) = kget l k := by
  unfold dget kget kvD
  rw [List.find?_map, Option.map_map]
  have : ((fun p : D × D => decide (keyOf p.1 = some (.inl k))) ∘ fun p : Key × D => (keyD p.1, p.2)) = fun p => decide (p.1 = k) := by
    funext p
    exact keyOf_iff p.1 k
  rw [this]
  rfl
theorem dput_kvD (l : List (Key × D)) (k : Key) (v : D) : dput (kvD l) (.inl k) (keyD k) v = kvD (kput l k v) := by
  unfold dput kput
  have h1 : (kvD l).any (fun p => decide (keyOf p.1 = some (.inl k))) = l.any fun p => decide (p.1 = k) := by
    unfold kvD
    rw [List.any_map]
    congr 1
    funext p
    exact keyOf_iff p.1 k
  rw [h1]
  by_cases h : (l.any fun p => decide (p.1 = k)) = true
  · rw [if_pos h, if_pos h]
    unfold kvD
    rw [List.map_map, List.map_map]
    apply List.map_congr_left
    intro p _
    show (if keyOf (keyD p.1) = some (.inl k) then (keyD p.1, v) else (keyD p.1, p.2)) = _
    have := keyOf_iff p.1 k
    by_cases q : p.1 = k
    · have q' : keyOf (keyD p.1) = some (.inl k) := by rw [q]; exact keyOf_keyD k
      rw [if_pos q']
      simp [q]
    · have q' : ¬ keyOf (keyD p.1) = some (.inl k) := by
        rw [decide_eq_false q] at this
        exact of_decide_eq_false this
      rw [if_neg q']
      simp [q]
  · rw [if_neg h, if_neg h]
    unfold kvD
    rw [List.map_append]
    rfl
theorem gIn_kvD {neg : Bool} {k : Key} {l : List (Key × D)} : gIn neg (keyD k) (.dict (kvD l)) = some (.val (.bool (if neg then !(kget l k).isSome else (kget l k).isSome))) := by
  have : gIn neg (keyD k) (.dict (kvD l)) = (dAtI (kvD l) (keyD k)).map fun o => .val (.bool (if neg then !o.isSome else o.isSome)) := by cases k <;> rfl
  rw [this]
  unfold dAtI
  rw [keyOf_keyD, unD_kvD]
  simp only [fits, Bool.true_or, if_true, Option.map_some, dget_kvD]
theorem kvD_len (l : List (Key × D)) : (kvD l).length = l.length := by unfold kvD; rw [List.length_map]
theorem dSet_kvD {k : Key} {l : List (Key × D)} {v : D} (h : l.length < sizeLine) : dSet false (kvD l) (keyD k) v = some (kvD (kput l k v)) := by
  unfold dSet
  rw [keyOf_keyD]
  show (if (fits false (.inl k) || (false && fitsT (.inl k))) = true ∧ (kvD l).length < sizeLine then _ else _) = _
  rw [kvD_len, if_pos ⟨rfl, h⟩, dput_kvD]
theorem gIx_kvD {k : Key} {l : List (Key × D)} {v : D} (h : kget l k = some v) : gIx (.dict (kvD l)) (keyD k) = some (.val v) := by
  have : gIx (.dict (kvD l)) (keyD k) = (dAt (kvD l) (keyD k)).bind fun o => o.map T.val := by cases k <;> rfl
  rw [this]
  unfold dAt
  rw [keyOf_keyD, unD_kvD]
  simp only [fits, if_true, dget_kvD, h]
  rfl
/-! ### a dict whose keys are tuples of ints -/
def kvT (l : List (List Int × D)) : List (D × D) := l.map fun p => (.tuple (p.1.map PyData.int), p.2)
def tget (l : List (List Int × D)) (k : List Int) : Option D := (l.find? fun p => decide (p.1 = k)).map (·.2)
def tput (l : List (List Int × D)) (k : List Int) (v : D) : List (List Int × D) := if l.any (fun p => decide (p.1 = k)) then l.map (fun p => if p.1 = k then (p.1, v) else p) else l ++ [(k, v)]
theorem fitsT_k (k : List Int) : fitsT (kInts k) = true := by
  show (intsK (k.map Sum.inl)).isSome = true
  induction k with
  | nil => rfl
  | cons i k ih =>
    show ((intsK (k.map Sum.inl)).map _).isSome = true
    rw [Option.isSome_map]
    exact ih
theorem keyOf_dec (a b : List Int) : decide (keyOf (.tuple (a.map PyData.int)) = some (kInts b)) = decide (a = b) := by
  rw [keyOf_ints, Bool.eq_iff_iff, decide_eq_true_eq, decide_eq_true_eq]
  exact ⟨fun h => kInts_inj _ _ (Option.some.inj h), fun h => by rw [h]⟩
theorem dget_kvT (l : List (List Int × D)) (k : List Int) : dget (kvT l) (kInts k) = tget l k := by
  unfold dget tget kvT
  rw [List.find?_map, Option.map_map]
  have : (fun p : D × D => decide (keyOf p.1 = some (kInts k))) ∘ (fun p : List Int × D => ((.tuple (p.1.map PyData.int), p.2) : D × D)) = fun p => decide (p.1 = k) := by
    funext p
    exact keyOf_dec p.1 k
  rw [this]
  rfl
theorem dput_kvT (l : List (List Int × D)) (k : List Int) (v : D) : dput (kvT l) (kInts k) (.tuple (k.map PyData.int)) v = kvT (tput l k v) := by
  unfold dput tput
  have : ((kvT l).any fun p => decide (keyOf p.1 = some (kInts k))) = l.any fun p => decide (p.1 = k) := by
    unfold kvT
    rw [List.any_map]
    congr 1
    funext p
    exact keyOf_dec p.1 k
  rw [this]
  split
  · unfold kvT
    rw [List.map_map, List.map_map]
    refine List.map_congr_left fun p _ => ?_
    simp only [Function.comp]
    by_cases h : p.1 = k
    · rw [if_pos h, if_pos (by rw [keyOf_ints, h])]
    · rw [if_neg h, if_neg (by rw [keyOf_ints]; exact fun z => h (kInts_inj _ _ (Option.some.inj z)))]
  · unfold kvT
    rw [List.map_append]
    rfl
theorem dAtI_kvT (l : List (List Int × D)) (k : List Int) : dAtI (mkD true (kvT l)) (.tuple (k.map PyData.int)) = some (tget l k) := by
  unfold dAtI
  rw [keyOf_ints]
  show (if (fits true (kInts k) || (true && fitsT (kInts k))) = true then some (dget (kvT l) (kInts k)) else none) = _
  rw [if_pos (by rw [fitsT_k]; cases k <;> rfl), dget_kvT]
theorem dSet_kvT {l : List (List Int × D)} {k : List Int} {v : D} (h : l.length < sizeLine) : dSet true (kvT l) (.tuple (k.map PyData.int)) v = some (kvT (tput l k v)) := by
  unfold dSet
  rw [keyOf_ints]
  show (if (fits true (kInts k) || (true && fitsT (kInts k))) = true ∧ (kvT l).length < sizeLine then some (dput (kvT l) (kInts k) (.tuple (k.map PyData.int)) v) else none) = _
  rw [if_pos ⟨by rw [fitsT_k]; cases k <;> rfl, by unfold kvT; rw [List.length_map]; exact h⟩, dput_kvT]
theorem tget_isSome (l : List (List Int × D)) (k : List Int) : (tget l k).isSome = decide (k ∈ l.map (·.1)) := by
  unfold tget
  rw [Option.isSome_map, Bool.eq_iff_iff, decide_eq_true_eq, List.mem_map, List.find?_isSome]
  constructor
  · rintro ⟨p, hp, h⟩
    exact ⟨p, hp, of_decide_eq_true h⟩
  · rintro ⟨p, hp, h⟩
    exact ⟨p, hp, decide_eq_true h⟩
theorem tput_new {l : List (List Int × D)} {k : List Int} {v : D} (h : k ∉ l.map (·.1)) : tput l k v = l ++ [(k, v)] := by
  unfold tput
  rw [if_neg]
  intro z
  rw [List.any_eq_true] at z
  obtain ⟨p, hp, e⟩ := z
  exact h (List.mem_map.mpr ⟨p, hp, of_decide_eq_true e⟩)
/-! ### names seen -/
def seenK (ns : List Str) : List (Key × D) := ns.map fun x => (.inr x, .bool true)
theorem kget_seen (x : Str) : ∀ ns : List Str, (kget (seenK ns) (.inr x)).isSome = decide (x ∈ ns)
  | [] => by simp [seenK, kget]
  | y :: ns => by
    have ih := kget_seen x ns
    unfold kget seenK at *
    rw [List.map_cons, List.find?_cons]
    by_cases h : y = x
    · subst h; simp
    · have : decide ((Sum.inr y : Key) = .inr x) = false := decide_eq_false fun z => h (by cases z; rfl)
      simp only [this]
      rw [ih, Bool.eq_iff_iff]
      simp only [decide_eq_true_eq, List.mem_cons]
      exact ⟨.inr, fun z => z.resolve_left fun q => h q.symm⟩
theorem any_seen (x : Str) (ns : List Str) : ((seenK ns).any fun p => decide (p.1 = (Sum.inr x : Key))) = decide (x ∈ ns) := by
  unfold seenK
  rw [List.any_map, Bool.eq_iff_iff]
  simp only [List.any_eq_true, Function.comp, decide_eq_true_eq]
  exact ⟨fun ⟨y, h, q⟩ => by cases q; exact h, fun h => ⟨x, h, rfl⟩⟩
theorem kput_seen {x : Str} {ns : List Str} (h : x ∉ ns) : kput (seenK ns) (.inr x) (.bool true) = seenK (ns ++ [x]) := by
  unfold kput
  rw [any_seen, decide_eq_false h]
  simp only [Bool.false_eq_true, if_false]
  unfold seenK
  rw [List.map_append]
  rfl
theorem gIn_seen {neg : Bool} {x : Str} {ns : List Str} : gIn neg (.str x) (.dict (kvD (seenK ns))) = some (.val (.bool (if neg then !decide (x ∈ ns) else decide (x ∈ ns)))) := by
  have := gIn_kvD (neg := neg) (k := .inr x) (l := seenK ns)
  rw [kget_seen] at this
  exact this
theorem seen_len (ns : List Str) : (seenK ns).length = ns.length := by unfold seenK; rw [List.length_map]
theorem dSet_seen {x : Str} {ns : List Str} (h : x ∉ ns) (hl : ns.length < sizeLine) : dSet false (kvD (seenK ns)) (.str x) (.bool true) = some (kvD (seenK (ns ++ [x]))) := by
  have := dSet_kvD (k := .inr x) (l := seenK ns) (v := .bool true) (by rw [seen_len]; exact hl)
  rw [kput_seen h] at this
  exact this
end BV
/-! The program: is_case. -/
namespace BV
open PySem L2

/-- a row's cells, behind the names seen -/
def cellsScan (u : Int) : List D → List Str → Option (List Str)
  | [], ns => some ns
  | .none :: r, ns => cellsScan u r ns
  | .tuple [.str x, .int c] :: r, ns => if cellOk x c = true ∧ x ∉ ns ∧ u + c ≠ 0 then cellsScan u r (ns ++ [x]) else none
  | _ :: _, _ => none
def rowsScan : List D → List D → List Str → Option (List Str)
  | .int u :: us, .tuple r :: rs, ns => (cellsScan u r ns).bind (rowsScan us rs)
  | _, _, ns => some ns
def caseB : D → Bool
  | .tuple [.tuple us, .tuple rows] => shapeB (.tuple [.tuple us, .tuple rows]) && us.all (inB 1 30) && (match rowsScan us rows [] with | some ns => decide (blank ∈ ns) | none => false)
  | _ => false
@[simp] theorem e_zip_t {xs ys : List D} : gZip [.tuple xs, .tuple ys] = some (zipL xs ys) := rfl
@[simp] theorem e_zip_l {xs ys : List D} : gZip [.list xs, .list ys] = some (zipL xs ys) := rfl
theorem zipL_cons {x y : D} {xs ys : List D} : zipL (x :: xs) (y :: ys) = .tuple [x, y] :: zipL xs ys := rfl
theorem zipL_nil {ys : List D} : zipL [] ys = [] := rfl
theorem zipL_nil' {ys : List D} : zipL ys [] = [] := by unfold zipL; simp
theorem forL_cons {b : BT1} {body : SS} {d : D} {ds : List D} {ρ ρ1 : En} {S : Sto} (h : b d ρ = some ρ1) : forL b body (d :: ds) ρ S = (match body ρ1 S with
      | .nx ρ2 S2 => forL b body ds ρ2 S2
      | .ct ρ2 S2 => forL b body ds ρ2 S2
      | .bk ρ2 S2 => .nx ρ2 S2
      | x => x) := by
  rw [forL, h]
  first | done | rfl
def stI (d : D) (ns : List Str) (a b c : Option T) : En := [some (.val d), some (.ownd false (kvD (seenK ns))), a, b, c]
theorem scan_len {u : Int} : ∀ {r : List D} {ns ns' : List Str}, cellsScan u r ns = some ns' → ns'.length ≤ ns.length + r.length
  | [], ns, ns', h => by cases h; simp
  | d :: r, ns, ns', h => by
    unfold cellsScan at h
    split at h
    · rename_i h1; cases h1
    · rename_i h1; cases h1; have := scan_len h; simp only [List.length_cons]; omega
    · rename_i h1
      cases h1
      split at h
      · have := scan_len h
        rw [List.length_append] at this
        simp only [List.length_cons, List.length_nil] at *; omega
      · cases h
    · cases h
theorem cells_run {u : Int} {d : D} {S : Sto} {bt : Option T} : ∀ (r : List D) (ns : List Str) (c0 : Option T), (∀ x ∈ r, noDict x = true) → ns.length + r.length ≤ 100000 →
    match cellsScan u r ns with
    | some ns' => ∃ c, forL (bName 4) b1_is_case r (stI d ns (some (.val (.int u))) bt c0) S = .nx (stI d ns' (some (.val (.int u))) bt c) S
    | none => forL (bName 4) b1_is_case r (stI d ns (some (.val (.int u))) bt c0) S = .rt (.val (.bool false)) S
  | [], ns, c0, _, _ => ⟨c0, rfl⟩
  | x :: r, ns, c0, hn, hl => by
    have hx := hn x (List.mem_cons_self ..)
    have ih := fun ns' c hl' => cells_run (u := u) (d := d) (S := S) (bt := bt) r ns' c (fun y hy => hn y (List.mem_cons_of_mem _ hy)) hl'
    have ec := iscell_spec (S := S) hx
    have e0 : bName 4 x (stI d ns (some (.val (.int u))) bt c0) = some (stI d ns (some (.val (.int u))) bt (some (.val x))) := rfl
    rw [forL_cons e0]
    rw [List.length_cons] at hl
    by_cases hN : x = .none
    · subst hN
      have : b1_is_case (stI d ns (some (.val (.int u))) bt (some (.val .none))) S = .nx (stI d ns (some (.val (.int u))) bt (some (.val .none))) S := by simp [b1_is_case, stI]
      rw [this]
      simp only [cellsScan]
      exact ih ns _ (by omega)
    · by_cases hc : cellB x = true
      · obtain ⟨y, c, rfl⟩ : ∃ y c, x = .tuple [.str y, .int c] := by
          unfold cellB at hc
          split at hc
          · exact ⟨_, _, rfl⟩
          · cases hc
        have hc' : cellOk y c = true := hc
        have hB : cellB (.tuple [.str y, .int c]) = true := hc
        by_cases h2 : y ∈ ns
        · have e1 : cellsScan u (.tuple [.str y, .int c] :: r) ns = none := by simp [cellsScan, h2]
          have : b1_is_case (stI d ns (some (.val (.int u))) bt (some (.val (.tuple [.str y, .int c])))) S = .rt (.val (.bool false)) S := by
            simp [b1_is_case, stI, ec, hB, gIn_seen, h2]
          rw [this, e1]
        · by_cases h3 : u + c = 0
          · have e1 : cellsScan u (.tuple [.str y, .int c] :: r) ns = none := by simp [cellsScan, h3]
            have : b1_is_case (stI d ns (some (.val (.int u))) bt (some (.val (.tuple [.str y, .int c])))) S = .rt (.val (.bool false)) S := by
              simp [b1_is_case, stI, ec, hB, gIn_seen, h2, h3]
            rw [this, e1]
          · have e1 : cellsScan u (.tuple [.str y, .int c] :: r) ns = cellsScan u r (ns ++ [y]) := by simp [cellsScan, h2, h3, hc']
            have : b1_is_case (stI d ns (some (.val (.int u))) bt (some (.val (.tuple [.str y, .int c])))) S = .nx (stI d (ns ++ [y]) (some (.val (.int u))) bt (some (.val (.tuple [.str y, .int c])))) S := by
              have hs := dSet_seen h2 (Nat.lt_of_lt_of_le (show ns.length < 100000 by omega) (by decide))
              simp [b1_is_case, stI, ec, hB, gIn_seen, h2, h3, hs]
            rw [this, e1]
            exact ih (ns ++ [y]) _ (by rw [List.length_append]; simp; omega)
      · have hc' : cellB x = false := by simpa using hc
        have e1 : cellsScan u (x :: r) ns = none := by
          unfold cellsScan
          split
          · rename_i h; cases h
          · rename_i h; cases h; exact absurd rfl hN
          · rename_i h; cases h
            rw [if_neg]
            intro z
            exact hc z.1
          · rfl
        have hI : isNone x = false := by cases x <;> first | rfl | exact absurd rfl hN
        have : b1_is_case (stI d ns (some (.val (.int u))) bt (some (.val x))) S = .rt (.val (.bool false)) S := by
          simp [b1_is_case, stI, ec, hc', hI]
        rw [this, e1]
theorem rows_run {d : D} {S : Sto} {w : Nat} : ∀ (us rs : List D) (ns : List Str) (a0 b0 c0 : Option T), us.length = rs.length → us.all (inB 1 30) = true → rs.all (wideIs w) = true → (∀ x ∈ rs, noDict x = true) → ns.length + rs.length * w ≤ 100000 →
    match rowsScan us rs ns with
    | some ns' => ∃ a b c, forL (bTup 2 (bCons (bName 2) (bCons (bName 3) bNil))) b2_is_case (zipL us rs) (stI d ns a0 b0 c0) S = .nx (stI d ns' a b c) S
    | none => forL (bTup 2 (bCons (bName 2) (bCons (bName 3) bNil))) b2_is_case (zipL us rs) (stI d ns a0 b0 c0) S = .rt (.val (.bool false)) S
  | [], [], ns, a0, b0, c0, _, _, _, _, _ => ⟨a0, b0, c0, rfl⟩
  | [], _ :: _, _, _, _, _, h, _, _, _, _ => by cases h
  | _ :: _, [], _, _, _, _, h, _, _, _, _ => by cases h
  | u :: us, r :: rs, ns, a0, b0, c0, hl, hu, hw, hn, hz => by
    rw [List.all_cons, Bool.and_eq_true] at hu hw
    cases r with
    | tuple r =>
      cases u with
      | int u =>
        have hr : r.length = w := by simpa [wideIs] using hw.1
        rw [List.length_cons, Nat.succ_mul] at hz
        have e0 : bTup 2 (bCons (bName 2) (bCons (bName 3) bNil)) (.tuple [.int u, .tuple r]) (stI d ns a0 b0 c0) = some (stI d ns (some (.val (.int u))) (some (.val (.tuple r))) c0) := rfl
        rw [zipL_cons, forL_cons e0]
        have hrun := cells_run (u := u) (d := d) (S := S) (bt := some (.val (.tuple r))) r ns c0 (noDict_t (hn _ (List.mem_cons_self ..))) (by omega)
        have eb : b2_is_case (stI d ns (some (.val (.int u))) (some (.val (.tuple r))) c0) S = forL (bName 4) b1_is_case r (stI d ns (some (.val (.int u))) (some (.val (.tuple r))) c0) S := by
          simp [b2_is_case, stI]
        rw [eb]
        cases es : cellsScan u r ns with
        | none =>
          rw [es] at hrun
          simp only [rowsScan, es, Option.bind_none, hrun]
        | some ns' =>
          rw [es] at hrun
          obtain ⟨c, ec⟩ := hrun
          have hlen := scan_len es
          simp only [rowsScan, es, Option.bind_some, ec]
          exact rows_run us rs ns' _ _ _ (by simpa using hl) hu.2 hw.2 (fun x hx => hn x (List.mem_cons_of_mem _ hx)) (by omega)
      | _ => simp [inB] at hu
    | _ => simp [wideIs] at hw
theorem iscase_spec {d : D} {S : Sto} (h : noDict d = true) : sem_is_case [.val d] S = .ok (.val (.bool (caseB d))) S := by
  unfold sem_is_case
  refine fn_rt ?_
  have es := isshape_spec (S := S) h
  by_cases hs : shapeB d = true
  · obtain ⟨us, rows, rfl⟩ : ∃ us rows, d = .tuple [.tuple us, .tuple rows] := by
      unfold shapeB at hs
      split at hs
      · exact ⟨_, _, rfl⟩
      · cases hs
    have hn := noDict_t h
    have hnu := noDict_t (hn (.tuple us) (by simp))
    have hnr := noDict_t (hn (.tuple rows) (by simp))
    have e := lcM_mapv (b := bName 2) (elt := cCall sem_is_from (aCons (cVar 2) (aCons (cC (.int 1)) (aCons (cC (.int 30)) aNil)))) (S := S) (ρ := [some (.val (.tuple [.tuple us, .tuple rows])), none, none, none, none]) (fun d => .bool (inB 1 30 d)) us (by
      intro d hd
      exact ⟨_, rfl, by simp [from_spec (noDict_isDct (hnu d hd))]⟩)
    have hs0 : shapeB (.tuple [.tuple us, .tuple rows]) = true := hs
    rw [hs0] at es
    unfold g_is_case
    by_cases hu : us.all (inB 1 30) = true
    · obtain ⟨w, hl, h2, h15, hw, hwid⟩ : ∃ w, us.length = rows.length ∧ 2 ≤ us.length ∧ us.length ≤ 15 ∧ w ≤ 15 ∧ rows.all (wideIs w) = true := by
        simp only [shapeB, Bool.and_eq_true, decide_eq_true_eq] at hs
        obtain ⟨⟨⟨⟨a, b⟩, c⟩, _⟩, q⟩ := hs
        cases rows with
        | nil => cases q
        | cons r rows =>
          cases r with
          | tuple r =>
            simp only [Bool.and_eq_true, decide_eq_true_eq] at q
            exact ⟨r.length, a, b, c, q.1.2, q.2⟩
          | _ => cases q
      have hb : rows.length * w ≤ 15 * 15 := Nat.mul_le_mul (by omega) hw
      have hrun := rows_run (d := .tuple [.tuple us, .tuple rows]) (S := S) us rows [] none none none hl hu hwid hnr (by simp; omega)
      have e1 : caseB (.tuple [.tuple us, .tuple rows]) = (match rowsScan us rows [] with | some ns => decide (blank ∈ ns) | none => false) := by
        simp only [caseB, hs0, hu, Bool.true_and]
      rw [e1]
      refine runs_seq (by simp [es, e, hu]; exact ⟨rfl, rfl⟩) ?_
      refine runs_seq (by simp; exact ⟨rfl, rfl⟩) ?_
      cases er : rowsScan us rows [] with
      | some ns =>
        rw [er] at hrun
        obtain ⟨a, b, c, hrun⟩ := hrun
        refine runs_seq (by simp; exact hrun) ?_
        simp [stI, blank_is, gIn_seen]
      | none =>
        rw [er] at hrun
        have : (sFor (cRng gZip (uCons (cBin gIx (cVarU 0) (cC (.int 0))) (uCons (cBin gIx (cVarU 0) (cC (.int 1))) uNil))) (bTup 2 (bCons (bName 2) (bCons (bName 3) bNil))) b2_is_case) [some (.val (.tuple [.tuple us, .tuple rows])), some (.ownd false []), none, none, none] S = .rt (.val (.bool false)) S := by
          simp; exact hrun
        rw [e_seq, this]
        rfl
    · have hu' : us.all (inB 1 30) = false := by simpa using hu
      have e1 : caseB (.tuple [.tuple us, .tuple rows]) = false := by simp [caseB, hu']
      rw [e1]
      simp [es, e, hu']
  · have hs' : shapeB d = false := by simpa using hs
    have e1 : caseB d = false := by
      unfold caseB
      split
      · rw [hs']; rfl
      · rfl
    rw [e1]
    rw [hs'] at es
    unfold g_is_case
    simp [es]
end BV
/-! A built case is a case. -/
namespace BV
open PySem L2

theorem isName_nameB {x : Str} (h : IsName x) : nameB x = true := by
  unfold nameB letterC
  have := h.all
  simp only [Bool.and_eq_true, decide_eq_true_eq, List.all_eq_true]
  exact ⟨⟨h.pos, h.most⟩, this⟩
theorem cellOk_name {x : Str} {c : Int} (h : IsName x) (hc : c = 0 ∨ c = 1 ∨ c = -1) : cellOk x c = true := by
  unfold cellOk
  rw [isName_nameB h]
  rcases hc with h | h | h <;> subst h <;> rfl
theorem cellOk_blank : cellOk blank 0 = true := by unfold cellOk; simp
theorem scan_cells {u : Int} : ∀ (r : List CellM) (ns : List Str), (∀ x c, some (x, c) ∈ r → cellOk x c = true ∧ u + c ≠ 0) → (ns ++ r.filterMap nameC).Nodup → cellsScan u (r.map cellD) ns = some (ns ++ r.filterMap nameC)
  | [], ns, _, _ => by simp [cellsScan]
  | none :: r, ns, h, hd => by
    show cellsScan u (r.map cellD) ns = _
    exact scan_cells r ns (fun x c hx => h x c (List.mem_cons_of_mem _ hx)) hd
  | some (x, c) :: r, ns, h, hd => by
    have hx := h x c (List.mem_cons_self ..)
    have e : (some (x, c) :: r).filterMap nameC = x :: r.filterMap nameC := rfl
    rw [e] at hd ⊢
    have hd' : ((ns ++ [x]) ++ r.filterMap nameC).Nodup := by rw [List.append_assoc]; exact hd
    have hn : x ∉ ns := fun z => by
      have := (List.nodup_append.mp hd).2.2 x z x (by simp)
      exact this rfl
    have ih := scan_cells r (ns ++ [x]) (fun y d hy => h y d (List.mem_cons_of_mem _ hy)) hd'
    show (if cellOk x c = true ∧ x ∉ ns ∧ u + c ≠ 0 then cellsScan u (r.map cellD) (ns ++ [x]) else none) = _
    rw [if_pos ⟨hx.1, hn, hx.2⟩, ih, List.append_assoc]
    rfl
theorem scan_rows : ∀ (us : List Int) (rows : List (List CellM)) (ns : List Str), us.length = rows.length → (∀ (i : Nat) u r, us[i]? = some u → rows[i]? = some r → ∀ x c, some (x, c) ∈ r → cellOk x c = true ∧ u + c ≠ 0) → (ns ++ namesOf rows).Nodup → rowsScan (us.map PyData.int) (rows.map rowD) ns = some (ns ++ namesOf rows)
  | [], [], ns, _, _, _ => by simp [rowsScan, namesOf]
  | [], _ :: _, _, h, _, _ => by cases h
  | _ :: _, [], _, h, _, _ => by cases h
  | u :: us, r :: rows, ns, hl, h, hd => by
    have e : namesOf (r :: rows) = r.filterMap nameC ++ namesOf rows := by unfold namesOf; rw [List.flatten_cons, List.filterMap_append]
    rw [e, ← List.append_assoc] at hd
    have h1 := scan_cells (u := u) r ns (h 0 u r rfl rfl) (List.nodup_append.mp hd).1
    have ih := scan_rows us rows (ns ++ r.filterMap nameC) (by simpa using hl) (fun i v q e1 e2 => h (i + 1) v q (by simpa using e1) (by simpa using e2)) hd
    show (cellsScan u (r.map cellD) ns).bind (rowsScan (us.map PyData.int) (rows.map rowD)) = _
    rw [h1, Option.bind_some, ih, e, List.append_assoc]
theorem caseD_case {w h : Nat} {units : List Int} {rows : List (List CellM)} (k : CaseOk w h units rows) (hw : w ≤ 15) (hh : h ≤ 15) : caseB (caseD units rows) = true := by
  have hl : units.length = rows.length := by rw [k.hu, k.hr]
  have hcell : ∀ (i : Nat) u r, units[i]? = some u → rows[i]? = some r → ∀ x c, some (x, c) ∈ r → cellOk x c = true ∧ u + c ≠ 0 := by
    intro i u r e1 e2 x c hx
    obtain ⟨j, hj⟩ := List.getElem?_of_mem hx
    have hu := k.un u (List.mem_of_getElem? e1)
    rcases k.cell i j r x c e2 hj with ⟨rfl, rfl⟩ | ⟨q1, q2, v, q3, q4⟩
    · exact ⟨cellOk_blank, by omega⟩
    · rw [e1] at q3
      cases q3
      exact ⟨cellOk_name q1 q2, by omega⟩
  have hs := scan_rows units rows [] hl hcell (by rw [List.nil_append]; exact k.nd)
  have hu : (units.map PyData.int).all (inB 1 30) = true := by
    rw [List.all_map, List.all_eq_true]
    intro u hu
    have := k.un u hu
    simp [inB, this]
  have hsh : shapeB (caseD units rows) = true := by
    cases rows with
    | nil => have := k.h2; have := k.hr; simp at this; omega
    | cons r rows =>
      have hr := k.hw r (List.mem_cons_self ..)
      have h2 := k.h2
      have w2 := k.w2
      have hu := k.hu
      unfold caseD
      simp only [shapeB, List.map_cons, rowD, List.length_map]
      simp only [Bool.and_eq_true, decide_eq_true_eq, List.length_cons, List.length_map]
      have hl' : units.length = rows.length + 1 := hl
      refine ⟨⟨⟨⟨hl', by omega⟩, by omega⟩, ?_⟩, ⟨by omega, by omega⟩, ?_⟩
      · rw [List.all_eq_true]
        intro d hd
        rcases List.mem_cons.mp hd with e | e
        · rw [e]; rfl
        · obtain ⟨q, _, rfl⟩ := List.mem_map.mp e
          rfl
      · rw [List.all_eq_true]
        intro d hd
        rcases List.mem_cons.mp hd with e | e
        · rw [e]; simp [wideIs]
        · obtain ⟨q, hq, rfl⟩ := List.mem_map.mp e
          have := k.hw q (List.mem_cons_of_mem _ hq)
          simp [wideIs, rowD, this, hr]
  have e : caseB (caseD units rows) = (shapeB (caseD units rows) && (units.map PyData.int).all (inB 1 30) && (match rowsScan (units.map PyData.int) (rows.map rowD) [] with | some ns => decide (blank ∈ ns) | none => false)) := rfl
  rw [e, hsh, hu, hs]
  have := k.bl
  simpa using this
/-- a case's data hold no dicts -/
theorem cellD_nd (c : CellM) : noDict (cellD c) = true := by
  cases c with
  | none => rfl
  | some p => obtain ⟨x, i⟩ := p; rfl
theorem noDicts_all : ∀ {ds : List D}, (∀ d ∈ ds, noDict d = true) → noDicts ds = true
  | [], _ => rfl
  | d :: ds, h => by rw [noDicts, Bool.and_eq_true]; exact ⟨h d (List.mem_cons_self ..), noDicts_all fun e he => h e (List.mem_cons_of_mem _ he)⟩
theorem nd_t {ds : List D} (h : ∀ d ∈ ds, noDict d = true) : noDict (.tuple ds) = true := noDicts_all h
theorem nd_l {ds : List D} (h : ∀ d ∈ ds, noDict d = true) : noDict (.list ds) = true := noDicts_all h
theorem ints_nd (us : List Int) : ∀ d ∈ us.map PyData.int, noDict d = true := by
  intro d hd
  obtain ⟨u, _, rfl⟩ := List.mem_map.mp hd
  rfl
theorem rowD_nd (r : List CellM) : noDict (rowD r) = true := nd_t (by
  intro d hd
  obtain ⟨c, _, rfl⟩ := List.mem_map.mp hd
  exact cellD_nd c)
theorem rowsD_nd (rows : List (List CellM)) : ∀ d ∈ rows.map rowD, noDict d = true := by
  intro d hd
  obtain ⟨r, _, rfl⟩ := List.mem_map.mp hd
  exact rowD_nd r
theorem caseD_nd (units : List Int) (rows : List (List CellM)) : noDict (caseD units rows) = true := nd_t (by
  intro d hd
  simp only [List.mem_cons, List.not_mem_nil, or_false] at hd
  rcases hd with rfl | rfl
  · exact nd_t (ints_nd units)
  · exact nd_t (rowsD_nd rows))
end BV
/-! Exceptions as values, evaluated. -/
namespace BV
open PySem L2

section
variable {hx : HotX} {i : Nat} {k : Exc → Sto → R T} {ρ ρ1 : En} {S S1 : Sto} {c : Str} {cs : List Str} {f : Str} {g : SS} {su : HotX → SS} {e : Exc} {t : T} {r : Fl} {n : Nat} {ts : List T}
@[simp] theorem e_theX : theX hx i k ρ S = (match ρ[i]? with
  | some (some (.exn a C d e)) => if a = hx.a ∧ C = hx.C ∧ d = hx.d ∧ isExc e.cls = true then k e S else .bad
  | _ => .bad) := rfl
@[simp] theorem e_isX : cIsX hx i c ρ S = theX hx i (fun e S => .ok (.val (.bool (exmB e.cls c))) S) ρ S := rfl
@[simp] theorem e_isXs : cIsXs hx i cs ρ S = theX hx i (fun e S => .ok (.val (.bool (cs.any (exmB e.cls)))) S) ρ S := rfl
@[simp] theorem e_fldX : cFldX hx i f ρ S = theX hx i (fun e S => match e.fld with
  | some (f', d) => if f' = f then .ok (.val d) S else .bad
  | none => .bad) ρ S := rfl
@[simp] theorem unset_nx : unset i (.nx ρ S) = .nx (ρ.set i none) S := rfl
@[simp] theorem unset_rt : unset i (.rt t S) = .rt t S := rfl
@[simp] theorem unset_bk : unset i (.bk ρ S) = .bk (ρ.set i none) S := rfl
@[simp] theorem unset_ct : unset i (.ct ρ S) = .ct (ρ.set i none) S := rfl
theorem tryAs_nx (h : g ρ S = .nx ρ1 S1) : sTryAs g c i su ρ S = .nx ρ1 S1 := by unfold sTryAs; rw [h]
theorem tryAs_rt (h : g ρ S = .rt t S1) : sTryAs g c i su ρ S = .rt t S1 := by unfold sTryAs; rw [h]
theorem tryAs_ex (h : g ρ S = .ex e ρ1 S1) (he : isExc e.cls = true) (hm : exmB e.cls c = true) (hs : ∀ hx : HotX, unset i (su hx (ρ1.set i (some (.exn hx.a hx.C hx.d e))) S1) = r) : sTryAs g c i su ρ S = r := by
  unfold sTryAs
  rw [h]
  simp only
  rw [if_pos he, if_pos hm]
  exact uni_eq hs
theorem tryAs_no (h : g ρ S = .ex e ρ1 S1) (he : isExc e.cls = true) (hm : exmB e.cls c = false) : sTryAs g c i su ρ S = .ex e ρ1 S1 := by
  unfold sTryAs
  rw [h]
  simp only
  rw [if_pos he, if_neg (by rw [hm]; exact Bool.false_ne_true)]
end
end BV
/-! Lending, in evaluation. -/
namespace BV
open PySem L2

@[simp] theorem e_bor {f : SE} {ρ : En} {S : Sto} : cBor f ρ S = (match f (frE ρ) S with | .ok t S1 => if lfT t && lfS S1 then .ok t S1 else .bad | .exc e S1 => if lfS S1 then .exc e S1 else .bad | .bad => .bad) := rfl
@[simp] theorem fr_nil : frE [] = [] := rfl
@[simp] theorem fr_cons {t : Option T} {ρ : En} : frE (t :: ρ) = t.map frT :: frE ρ := rfl
@[simp] theorem frT_val {d : D} : frT (.val d) = .val d := rfl
@[simp] theorem frT_own {xs : List D} : frT (.own xs) = .val (.list xs) := rfl
@[simp] theorem frT_own2 {xs : List (List D)} : frT (.own2 xs) = .val (.list (xs.map PyData.list)) := rfl
@[simp] theorem frT_ownd {q : Bool} {kvs : List (D × D)} : frT (.ownd q kvs) = .val (.dict (mkD q kvs)) := rfl
@[simp] theorem frT_cel {n : Nat} : frT (.cel n) = .cel n := rfl
@[simp] theorem frT_scr {n : List Int} : frT (.scr n) = .scr n := rfl
@[simp] theorem lfT_own {xs : List D} : lfT (.own xs) = lfs xs := rfl
@[simp] theorem lfT_val {d : D} : lfT (.val d) = lf d := rfl
@[simp] theorem lf_n : lf .none = true := rfl
@[simp] theorem lf_b {b : Bool} : lf (.bool b) = true := rfl
@[simp] theorem lf_i {b : Int} : lf (.int b) = true := rfl
@[simp] theorem lf_s {b : Str} : lf (.str b) = true := rfl
@[simp] theorem lf_t {xs : List D} : lf (.tuple xs) = lfs xs := rfl
@[simp] theorem lfs_nil : lfs [] = true := rfl
@[simp] theorem lfs_cons {x : D} {xs : List D} : lfs (x :: xs) = (lf x && lfs xs) := rfl
theorem lfS_ext {n m : Nat} {S S' : Sto} (h : lfS S = true) (x : Ext n S S') (hb : HasBag S' n m) : lfS S' = true := by
  unfold lfS at h ⊢
  rw [List.all_eq_true] at h ⊢
  intro c hc
  obtain ⟨i, hi, e⟩ := List.mem_iff_getElem.mp hc
  have e1 : S'[i]? = some c := by rw [List.getElem?_eq_getElem hi, e]
  by_cases z : i = n
  · obtain ⟨a, b, e2, _⟩ := hb
    rw [← z, e1] at e2
    cases e2
    rfl
  · exact h c (List.mem_of_getElem? (by rw [← x.rest i z]; exact e1))
theorem lfS_new {S : Sto} {a b : Int} (h : lfS S = true) : lfS (S ++ [.lst [.int a, .int b]]) = true := by
  unfold lfS at h ⊢
  rw [List.all_append, h]
  rfl
theorem lfs_map {α : Type} (u : α → D) (h : ∀ a, lf (u a) = true) : ∀ xs : List α, lfs (xs.map u) = true
  | [] => rfl
  | x :: xs => by rw [List.map_cons, lfs, lfs_map u h xs, h]; rfl
theorem lfs_strs (xs : List Str) : lfs (xs.map PyData.str) = true := lfs_map PyData.str (fun _ => rfl) xs
theorem lfs_ints (xs : List Int) : lfs (xs.map PyData.int) = true := lfs_map PyData.int (fun _ => rfl) xs
end BV
/-! k06: cases judged. -/
namespace BV
open PySem L2

def g_vet_case : SS := sSeq (sIf (bNot (cT (cCall sem_is_case (aCons (cVar 0) aNil)))) (sRaise "NoCase") sSkip)
    (sRet (cC (.bool true)))
def sem_vet_case : Fn := fnL 1 g_vet_case
def g_law_whole : SS := sRet (vAnd (cUn (gIsi "int") (cVarU 0)) (vAnd (vNot (cUn (gIsi "bool") (cVarU 0))) (cChain gLe gLe (cVarU 1) (cVarU 0) (cVarU 2))))
def sem_law_whole : Fn := fnL 3 g_law_whole
def g_law_is_name : SS := sSeq (sIf (bOr (bNot (cT (cUn (gIsi "str") (cVarU 0)))) (bNot (cB (cChain gLe gLe (cC (.int 1)) (cB1 gLen (uCons (cVarU 0) uNil)) (cC (.int 3)))))) (sRet (cC (.bool false))) sSkip)
    (sRet (vNot (cB1 gAny (uCons (cLc (cSeq (cVarU 0)) (bName 1) bYes (cBin (gIn true) (cVarU 1) (cC (.str "abcdefghijklmnopqrstuvwxyz"))) [1]) uNil))))
def sem_law_is_name : Fn := fnL 2 g_law_is_name
def g_law_cell_good : SS := sSeq (sIf (bOr (bNot (cT (cUn (gIsi "tuple") (cVarU 0)))) (bOr (cB (cBin (gEq true) (cB1 gLen (uCons (cVarU 0) uNil)) (cC (.int 2)))) (bNot (cT (cCall sem_law_whole (aCons (cBin gIx (cVarU 0) (cC (.int 1))) (aCons (cUn gNeg (cC (.int 1))) (aCons (cC (.int 1)) aNil)))))))) (sRet (cC (.bool false))) sSkip)
    (sSeq (sIf (bAnd (cT (cUn (gIsi "str") (cBin gIx (cVarU 0) (cC (.int 0))))) (cB (cBin (gEq false) (cBin gIx (cVarU 0) (cC (.int 0))) (cC (.str " "))))) (sRet (cBin (gEq false) (cBin gIx (cVarU 0) (cC (.int 1))) (cC (.int 0)))) sSkip)
    (sRet (vAnd (cCall sem_law_is_name (aCons (cBin gIx (cVarU 0) (cC (.int 0))) aNil)) (cBin (gEq true) (cBin gAdd (cVarU 1) (cBin gIx (cVarU 0) (cC (.int 1)))) (cC (.int 0))))))
def sem_law_cell_good : Fn := fnL 2 g_law_cell_good
def b1_law_is_case : SS := sSeq (sIf (cB (cBin (gEq true) (cB1 gLen (uCons (cVarU 3) uNil)) (cB1 gLen (uCons (cBin gIx (cBin gIx (cVarU 0) (cC (.int 1))) (cC (.int 0))) uNil)))) (sRet (cC (.bool false))) sSkip)
    (sSeq (sIf (bNot (cT (cB1 gAll (uCons (cLc (cSeq (cVarU 3)) (bName 5) bYes (vOr (cUn gIsN (cVarU 5)) (cCall sem_law_cell_good (aCons (cVar 5) (aCons (cVar 2) aNil)))) [5]) uNil)))) (sRet (cC (.bool false))) sSkip)
    (sAsg 1 (cBin gAdd (cVarU 1) (cLc (cSeq (cVarU 3)) (bName 5) (cB (cUn gNotN (cVarU 5))) (cBin gIx (cVarU 5) (cC (.int 0))) [5]))))
def g_law_is_case : SS := sSeq (sIf (bOr (bNot (cT (cUn (gIsi "tuple") (cVarU 0)))) (cB (cBin (gEq true) (cB1 gLen (uCons (cVarU 0) uNil)) (cC (.int 2))))) (sRet (cC (.bool false))) sSkip)
    (sSeq (sIf (bOr (bNot (cT (cUn (gIsi "tuple") (cBin gIx (cVarU 0) (cC (.int 0)))))) (bOr (bNot (cT (cUn (gIsi "tuple") (cBin gIx (cVarU 0) (cC (.int 1)))))) (cB (cBin (gEq true) (cB1 gLen (uCons (cBin gIx (cVarU 0) (cC (.int 0))) uNil)) (cB1 gLen (uCons (cBin gIx (cVarU 0) (cC (.int 1))) uNil)))))) (sRet (cC (.bool false))) sSkip)
    (sSeq (sIf (bOr (bNot (cB (cChain gLe gLe (cC (.int 2)) (cB1 gLen (uCons (cBin gIx (cVarU 0) (cC (.int 0))) uNil)) (cC (.int 15))))) (bNot (cT (cB1 gAll (uCons (cLc (cSeq (cBin gIx (cVarU 0) (cC (.int 0)))) (bName 4) bYes (cCall sem_law_whole (aCons (cVar 4) (aCons (cC (.int 1)) (aCons (cC (.int 30)) aNil)))) [4]) uNil))))) (sRet (cC (.bool false))) sSkip)
    (sSeq (sIf (bOr (bNot (cT (cB1 gAll (uCons (cLc (cSeq (cBin gIx (cVarU 0) (cC (.int 1)))) (bName 3) bYes (cUn (gIsi "tuple") (cVarU 3)) [3]) uNil)))) (bNot (cB (cChain gLe gLe (cC (.int 2)) (cB1 gLen (uCons (cBin gIx (cBin gIx (cVarU 0) (cC (.int 1))) (cC (.int 0))) uNil)) (cC (.int 15)))))) (sRet (cC (.bool false))) sSkip)
    (sSeq (sAsg 1 (cList aNil))
    (sSeq (sFor (cRng gZip (uCons (cBin gIx (cVarU 0) (cC (.int 0))) (uCons (cBin gIx (cVarU 0) (cC (.int 1))) uNil))) (bTup 2 (bCons (bName 2) (bCons (bName 3) bNil))) b1_law_is_case)
    (sRet (vAnd (cBin (gEq false) (cUn gCountSet (cVarU 1)) (cB1 gLen (uCons (cVarU 1) uNil))) (cBin (gIn false) (cC (.str " ")) (cVarU 1)))))))))
def sem_law_is_case : Fn := fnL 6 g_law_is_case
noncomputable def g_law_vetted : SS := sTryAs (sRet (cBin gIsB (cCall sem_vet_case (aCons (cVar 0) aNil)) (cC (.bool true)))) "NoCase" 1 (fun hx => sSeq (sAsg 2 (cIsXs hx 1 ["NoHoles", "NoName", "NoLayout", "Tight", "Loose", "NoLines", "TooMany", "NoEnd", "NoMold", "NoLine"]))
    (sSeq (sIf (bOr (cT (cVarU 2)) (bOr (cT (cIsXs hx 1 ["NoPaper", "NoText", "NoRow", "NoStep"])) (bNot (cT (cIsX hx 1 "ValueError"))))) (sRet (cC (.str "another"))) sSkip)
    (sRet (cIf (cT (cIsX hx 1 "CastError")) (cC (.str "no case")) (cC (.str "another"))))))
noncomputable def sem_law_vetted : Fn := fnL 3 g_law_vetted
noncomputable def g_law_good : SS := sSeq (sAsg 1 (cCall sem_law_is_case (aCons (cVar 0) aNil)))
    (sSeq (sAsg 2 (cCall sem_is_case (aCons (cVar 0) aNil)))
    (sSeq (sIf (bOr (bNot (cT (cUn (gIsi "bool") (cVarU 2)))) (cB (cBin (gEq true) (cVarU 2) (cVarU 1)))) (sRet (cC (.bool false))) sSkip)
    (sRet (cBin (gEq false) (cCall sem_law_vetted (aCons (cVar 0) aNil)) (cIf (cT (cVarU 1)) (cC (.bool true)) (cC (.str "no case")))))))
noncomputable def sem_law_good : Fn := fnL 3 g_law_good
def g_law_odd_cell : SS := sSeq (sAsg 2 (cList (aCons (cTup (aCons (cC (.str "q")) (aCons (cC (.int 2)) aNil))) (aCons (cTup (aCons (cC (.str "q")) (aCons (cUn gNeg (cC (.int 2))) aNil))) (aCons (cTup (aCons (cC (.str "q")) (aCons (cC (.bool true)) aNil))) (aCons (cTup (aCons (cC (.str "q")) (aCons (cC .none) aNil))) (aCons (cTup (aCons (cC (.str "")) (aCons (cC (.int 0)) aNil))) (aCons (cTup (aCons (cC (.str "abcd")) (aCons (cC (.int 0)) aNil))) (aCons (cTup (aCons (cC (.str "A")) (aCons (cC (.int 0)) aNil))) (aCons (cTup (aCons (cC (.str "a b")) (aCons (cC (.int 0)) aNil))) (aCons (cTup (aCons (cC (.str " ")) (aCons (cC (.int 0)) aNil))) aNil)))))))))))
    (sSeq (sAsg 2 (cBin gAdd (cVarU 2) (cList (aCons (cTup (aCons (cC (.str " ")) (aCons (cC (.int 1)) aNil))) (aCons (cTup (aCons (cC .none) (aCons (cC (.int 0)) aNil))) (aCons (cTup (aCons (cC (.int 1)) (aCons (cC (.int 0)) aNil))) (aCons (cTup (aCons (cTup (aCons (cC (.str "q")) aNil)) (aCons (cC (.int 0)) aNil))) (aCons (cTup (aCons (cC (.str "q")) aNil)) (aCons (cTup (aCons (cC (.str "q")) (aCons (cC (.int 0)) (aCons (cC (.int 0)) aNil)))) (aCons (cList (aCons (cC (.str "q")) (aCons (cC (.int 0)) aNil))) (aCons (cC (.str "q")) (aCons (cC (.int 0)) (aCons (cTup aNil) aNil)))))))))))))
    (sSeq (sAsg 2 (cBin gAdd (cVarU 2) (cList (aCons (cTup (aCons (cC (.str "q")) (aCons (cC (.str "0")) aNil))) (aCons (cTup (aCons (cC (.str "  ")) (aCons (cC (.int 0)) aNil))) aNil)))))
    (sRet (cBin gIx (cBin gAdd (cVarU 2) (cList (aCons (cTup (aCons (cBin gIx (cVarU 1) (cC (.int 0))) (aCons (cC (.int 0)) aNil))) (aCons (cTup (aCons (cBin gIx (cVarU 1) (cUn gNeg (cC (.int 1)))) (aCons (cC (.int 1)) aNil))) (aCons (cTup (aCons (cC (.str " ")) (aCons (cC (.bool false)) aNil))) (aCons (cTup (aCons (cList (aCons (cC (.str "q")) aNil)) (aCons (cC (.int 0)) aNil))) (aCons (cC .none) aNil))))))) (cVarU 0)))))
def sem_law_odd_cell : Fn := fnL 3 g_law_odd_cell
def b1_law_spoilt : SS := sAsg 7 (cBin gAdd (cVarU 7) (cLc (cSeq (cVarU 8)) (bName 11) (cB (cUn gNotN (cVarU 11))) (cBin gIx (cVarU 11) (cC (.int 0))) [11]))
def g_law_spoilt : SS := sSeq (sAsg 5 (cB1 gList (uCons (cBin gIx (cVarU 0) (cC (.int 0))) uNil)))
    (sSeq (sAsg 6 (cLc2 (cSeq (cBin gIx (cVarU 0) (cC (.int 1)))) (bName 8) bYes (cB1 gList (uCons (cVarU 8) uNil)) [8]))
    (sSeq (sAsg 7 (cList aNil))
    (sSeq (sFor (cSeq (cBin gIx (cVarU 0) (cC (.int 1)))) (bName 8) b1_law_spoilt)
    (sSeq (sIf (cB (cBin gLt (cVarU 1) (cC (.int 4)))) (sFz 7 (sSet2 6 (cVarU 2) (cVarU 3) (cCall sem_law_odd_cell (aCons (cVar 4) (aCons (cVar 7) aNil))))) sSkip)
    (sSeq (sIf (cB (cBin (gEq false) (cVarU 1) (cC (.int 4)))) (sSet 5 (cVarU 2) (cBin gIx (cList (aCons (cC (.int 0)) (aCons (cC (.int 31)) (aCons (cUn gNeg (cC (.int 1))) (aCons (cC (.bool true)) (aCons (cC .none) (aCons (cC (.str "1")) (aCons (cTup (aCons (cC (.int 1)) aNil)) (aCons (cList (aCons (cC (.int 1)) aNil)) (aCons (cC (.int 1)) (aCons (cC (.int 30)) aNil))))))))))) (cBin gMod (cVarU 4) (cC (.int 10))))) sSkip)
    (sSeq (sIf (cB (cBin (gEq false) (cVarU 1) (cC (.int 5)))) (sLM2 6 (cVarU 2) mPopAt (aCons (cVar 3) aNil)) sSkip)
    (sSeq (sIf (cB (cBin (gEq false) (cVarU 1) (cC (.int 6)))) (sLM2 6 (cVarU 2) mInsert (aCons (cVar 3) (aCons (cC .none) aNil))) sSkip)
    (sSeq (sIf (cB (cBin (gEq false) (cVarU 1) (cC (.int 7)))) (sHz 6 (sLM 6 mPopAt (aCons (cVar 2) aNil) kDrop)) sSkip)
    (sSeq (sIf (cB (cBin (gEq false) (cVarU 1) (cC (.int 8)))) (sLM 5 mPopAt (aCons (cVar 2) aNil) kDrop) sSkip)
    (sFz 6 (sSeq (sAsg 9 (cList (aCons (cB1 gTuple (uCons (cVarU 5) uNil)) (aCons (cB1 gTuple (uCons (cLc (cSeq (cVarU 6)) (bName 8) bYes (cB1 gTuple (uCons (cVarU 8) uNil)) [8]) uNil)) aNil))))
    (sSeq (sIf (cB (cBin (gEq false) (cVarU 1) (cC (.int 9)))) (sSeq (sAsg 10 (cB1 gTuple (uCons (cBin gAdd (cLc (cSeq (cSl (cVarU 6) cNoPart (cPart (cUn gNeg (cC (.int 1)))))) (bName 8) bYes (cB1 gTuple (uCons (cVarU 8) uNil)) [8]) (cList (aCons (cBin gIx (cVarU 6) (cUn gNeg (cC (.int 1)))) aNil))) uNil)))
    (sSet 9 (cC (.int 1)) (cBin gIx (cList (aCons (cVar 10) (aCons (cVar 6) (aCons (cTup aNil) (aCons (cBin gAdd (cBin gIx (cVarU 9) (cC (.int 1))) (cSl (cBin gIx (cVarU 9) (cC (.int 1))) cNoPart (cPart (cC (.int 1))))) aNil))))) (cBin gMod (cVarU 4) (cC (.int 4)))))) sSkip)
    (sSeq (sIf (cB (cBin (gEq false) (cVarU 1) (cC (.int 10)))) (sFz 5 (sRet (cBin gIx (cList (aCons (cB1 gTuple (uCons (cSl (cVarU 9) cNoPart (cPart (cC (.int 1)))) uNil)) (aCons (cB1 gList (uCons (cVarU 9) uNil)) (aCons (cB1 gTuple (uCons (cBin gAdd (cVarU 9) (cList (aCons (cTup aNil) aNil))) uNil)) (aCons (cTup (aCons (cVar 5) (aCons (cBin gIx (cVarU 9) (cC (.int 1))) aNil))) (aCons (cUn gRev (cVarU 9)) aNil)))))) (cBin gMod (cVarU 4) (cC (.int 5)))))) sSkip)
    (sRet (cB1 gTuple (uCons (cVarU 9) uNil))))))))))))))))
def sem_law_spoilt : Fn := fnL 12 g_law_spoilt
noncomputable def b1_law : SS := sSeq (sAsgC 2 (cCall sem_law_bag (aCons (cVar 0) (aCons (cVar 1) aNil))))
    (sSeq (sAsg 3 (cCall sem_law_take (aCons (cVar 2) (aCons (cC (.int 15)) aNil))))
    (sSeq (sAsg 4 (cList (aCons (cCall sem_law_take (aCons (cVar 2) (aCons (cC (.int 15)) aNil))) (aCons (cCall sem_law_take (aCons (cVar 2) (aCons (cC (.int 15)) aNil))) (aCons (cCall sem_law_take (aCons (cVar 2) (aCons (cC (.int 26)) aNil))) aNil)))))
    (sSeq (sAsg 5 (cCall sem_law_case (aCons (cVar 2) (aCons (cB1 gInt1 (uCons (cBin (gEq false) (cCall sem_law_take (aCons (cVar 2) (aCons (cC (.int 4)) aNil))) (cC (.int 1))) uNil)) aNil))))
    (sSeq (sAsg 6 (cBin gMod (cBin gIx (cVarU 4) (cC (.int 0))) (cB1 gLen (uCons (cBin gIx (cVarU 5) (cC (.int 0))) uNil))))
    (sSeq (sAsg 7 (cCall sem_law_spoilt (aCons (cVar 5) (aCons (cVar 3) (aCons (cVar 6) (aCons (cBin gMod (cBin gIx (cVarU 4) (cC (.int 1))) (cB1 gLen (uCons (cBin gIx (cBin gIx (cVarU 5) (cC (.int 1))) (cC (.int 0))) uNil))) (aCons (cBin gIx (cVarU 4) (cC (.int 2))) aNil)))))))
    (sIf (bOr (bNot (cT (cCall sem_law_good (aCons (cVar 7) aNil)))) (bNot (cT (cCall sem_law_good (aCons (cVar 5) aNil))))) (sRet (cC (.bool false))) sSkip))))))
noncomputable def g_law : SS := sSeq (sFor (cRng gRng1 (uCons (cB1 gMax2 (uCons (cC (.int 1)) (uCons (cB1 gMin2 (uCons (cC (.int 10)) (uCons (cScrLen 0) uNil))) uNil))) uNil)) (bName 1) b1_law)
    (sSeq (sAsg 8 (cList (aCons (cC .none) (aCons (cC (.bool true)) (aCons (cC (.int 5)) (aCons (cC (.str "")) (aCons (cC (.str "1 a _/1 - -")) (aCons (cTup aNil) (aCons (cList aNil) (aCons (cTup (aCons (cTup aNil) (aCons (cTup aNil) aNil))) (aCons (cTup (aCons (cTup (aCons (cC (.int 1)) (aCons (cC (.int 1)) aNil))) (aCons (cTup aNil) aNil))) (aCons (cTup (aCons (cTup (aCons (cC (.int 1)) (aCons (cC (.int 1)) aNil))) (aCons (cTup (aCons (cTup aNil) (aCons (cTup aNil) aNil))) aNil))) aNil))))))))))))
    (sSeq (sAsg 8 (cBin gAdd (cVarU 8) (cList (aCons (cTup (aCons (cTup (aCons (cC (.int 1)) aNil)) (aCons (cTup (aCons (cTup (aCons (cC .none) (aCons (cTup (aCons (cC (.str " ")) (aCons (cC (.int 0)) aNil))) aNil))) aNil)) aNil))) (aCons (cTup (aCons (cTup (aCons (cC (.int 1)) (aCons (cC (.int 1)) aNil))) (aCons (cTup (aCons (cTup (aCons (cTup (aCons (cC (.str "a")) (aCons (cC (.int 0)) aNil))) (aCons (cTup (aCons (cC (.str " ")) (aCons (cC (.int 0)) aNil))) aNil))) (aCons (cTup (aCons (cC .none) (aCons (cC .none) aNil))) aNil))) aNil))) aNil)))))
    (sSeq (sLM 8 mAppend (aCons (cTup (aCons (cTup (aCons (cC (.int 1)) (aCons (cC (.int 1)) aNil))) (aCons (cTup (aCons (cTup (aCons (cC .none) (aCons (cC .none) aNil))) (aCons (cTup (aCons (cC .none) (aCons (cC .none) aNil))) aNil))) aNil))) aNil) kDrop)
    (sSeq (sAsg 9 (cList (aCons (cList (aCons (cC (.int 1)) (aCons (cC (.int 1)) aNil))) (aCons (cList (aCons (cList (aCons (cTup (aCons (cC (.str "a")) (aCons (cC (.int 0)) aNil))) (aCons (cTup (aCons (cC (.str " ")) (aCons (cC (.int 0)) aNil))) aNil))) (aCons (cList (aCons (cC .none) (aCons (cC .none) aNil))) aNil))) aNil))))
    (sSeq (sIf (bOr (cT (cBor (cCall sem_is_case (aCons (cVar 9) aNil)))) (cB (cBin (gEq true) (cVarU 9) (cList (aCons (cList (aCons (cC (.int 1)) (aCons (cC (.int 1)) aNil))) (aCons (cList (aCons (cList (aCons (cTup (aCons (cC (.str "a")) (aCons (cC (.int 0)) aNil))) (aCons (cTup (aCons (cC (.str " ")) (aCons (cC (.int 0)) aNil))) aNil))) (aCons (cList (aCons (cC .none) (aCons (cC .none) aNil))) aNil))) aNil)))))) (sRet (cC (.bool false))) sSkip)
    (sRet (cB1 gAll (uCons (cLc (cSeq (cBin gAdd (cVarU 8) (cList (aCons (cTup (aCons (cTup (aCons (cC (.int 1)) (aCons (cC (.int 1)) aNil))) (aCons (cTup (aCons (cTup (aCons (cTup (aCons (cC (.str "a")) (aCons (cUn gNeg (cC (.int 1))) aNil))) (aCons (cTup (aCons (cC (.str " ")) (aCons (cC (.int 0)) aNil))) aNil))) (aCons (cTup (aCons (cC .none) (aCons (cC .none) aNil))) aNil))) aNil))) aNil)))) (bName 7) bYes (cCall sem_law_good (aCons (cVar 7) aNil)) [7]) uNil))))))))
noncomputable def sem_law : Fn := fnL 10 g_law

end BV
/-! k06: the law's own look at any thing. -/
namespace BV
open PySem L2
section
variable {S : Sto}
theorem bin_dd6 {g : D → D → Option T} {f1 f2 : SE} {ρ : En} {t1 t2 t : T} {d1 d2 : D} (h1 : f1 ρ S = .ok t1 S) (a1 : asD t1 = some d1) (h2 : f2 ρ S = .ok t2 S) (a2 : asD t2 = some d2) (hg : g d1 d2 = some t) : cBin g f1 f2 ρ S = .ok t S := by
  unfold cBin
  rw [h1, R.d_oks a1, h2, R.d_oks a2, hg]
theorem asg_ok6 {i : Nat} {f : SE} {ρ : En} {t : T} {S1 : Sto} (h : f ρ S = .ok t S1) : sAsg i f ρ S = .nx (ρ.set i (some t)) S1 := by
  show sE f _ ρ S = _
  unfold sE
  rw [h]
theorem once_nodup6 {xs : List Str} : (once xs).length = xs.length ↔ xs.Nodup := by
  generalize e : xs.reverse = ys
  have e2 : xs = ys.reverse := by rw [← e, List.reverse_reverse]
  subst e2
  clear e
  induction ys with
  | nil => simp [once]
  | cons y ys ih =>
    have sl := once_len ys.reverse
    have sm := (once_snd ys.reverse).2 y
    rw [List.reverse_cons, once_snoc, List.length_append, List.length_singleton, List.nodup_append]
    by_cases q : y ∈ once ys.reverse
    · rw [if_pos q]
      refine ⟨fun z => by omega, fun z => absurd rfl (z.2.2 y (sm.mp q) y (by simp))⟩
    · rw [if_neg q, List.length_append, List.length_singleton]
      have : y ∉ ys.reverse := fun z => q (sm.mpr z)
      refine ⟨fun z => ⟨ih.mp (by omega), by simp, fun a ha b hb => ?_⟩, fun z => by rw [ih.mpr z.1]⟩
      simp at hb
      rw [hb]
      exact fun y' => this (y' ▸ ha)
theorem lwhole_spec {d : D} {a b : Int} (h : isDct d = false) : sem_law_whole [.val d, .val (.int a), .val (.int b)] S = .ok (.val (.bool (inB a b d))) S := by
  unfold sem_law_whole
  refine fn_rt ?_
  cases d with
  | dict _ => cases h
  | _ => simp [g_law_whole, inB]
theorem lname_spec {x : Str} : sem_law_is_name [.val (.str x)] S = .ok (.val (.bool (nameB x))) S := by
  unfold sem_law_is_name
  refine fn_rt ?_
  have gn : ∀ c, gIn true (.str ⟨#[c]⟩) (.str "abcdefghijklmnopqrstuvwxyz") = some (.val (.bool (!letterC c))) := fun c => by
    show (if (Str.length ⟨#[c]⟩) = 1 then some (T.val (.bool (!decide (c ∈ abc.cps.toList)))) else none) = _
    rw [abc_iff]
    rfl
  have e := lcM_str (b := bName 1) (elt := cBin (gIn true) (cVarU 1) (cC (.str "abcdefghijklmnopqrstuvwxyz"))) (ρ := [some (.val (.str x)), none]) (S := S) (fun c => !letterC c) x (fun c => ⟨_, rfl, by simp [gn]⟩)
  have ga : gAny [.list (x.cps.toList.map fun c => PyData.bool (!letterC c))] = some (.val (.bool (!x.cps.toList.all letterC))) := by
    have := g_any_m (p := fun c => !letterC c) (xs := x.cps.toList)
    rw [this]
    congr 3
    induction x.cps.toList with
    | nil => rfl
    | cons c cs ih => rw [List.any_cons, List.all_cons, ih]; simp
  unfold nameB
  by_cases h1 : 1 ≤ x.length
  · by_cases h2 : x.length ≤ 3
    · have h1' : (1 : Int) ≤ x.length := by omega
      have h2' : (x.length : Int) ≤ 3 := by omega
      generalize (x.cps.toList.map fun c => PyData.bool (!letterC c)) = XB at *
      generalize x.cps.toList.all letterC = B at *
      simp [g_law_is_name, h1, h2, h1', h2', e, ga]
    · have h1' : (1 : Int) ≤ x.length := by omega
      have h2' : ¬ (x.length : Int) ≤ 3 := by omega
      simp [g_law_is_name, h2, h1', h2']
  · have h1' : ¬ (1 : Int) ≤ x.length := by omega
    simp [g_law_is_name, h1, h1']
theorem lname_else {d : D} (h : isDct d = false) (h2 : ∀ x, d ≠ .str x) : sem_law_is_name [.val d] S = .ok (.val (.bool false)) S := by
  unfold sem_law_is_name
  refine fn_rt ?_
  cases d with
  | str x => exact absurd rfl (h2 x)
  | dict _ => cases h
  | _ => simp [g_law_is_name]
def goodC (u : Int) : D → Bool
  | .none => true
  | .tuple [.str x, .int c] => decide (-1 ≤ c) && decide (c ≤ 1) && (if x = blank then decide (c = 0) else nameB x && decide (u + c ≠ 0))
  | _ => false
theorem lcell_spec {d : D} {u : Int} (h : noDict d = true) (hn : d ≠ .none) : sem_law_cell_good [.val d, .val (.int u)] S = .ok (.val (.bool (goodC u d))) S := by
  unfold sem_law_cell_good
  refine fn_rt ?_
  cases d with
  | dict _ => cases h
  | none => exact absurd rfl hn
  | tuple ds =>
    match ds, h with
    | [], _ => simp [g_law_cell_good, goodC]
    | [a], _ => simp [g_law_cell_good, goodC]
    | a :: b :: c :: ds, _ =>
      have : ¬ (ds.length : Int) + 1 + 1 + 1 = 2 := by omega
      simp [g_law_cell_good, goodC, this]
    | [a, b], h =>
      have ha := noDict_isDct (noDict_t h a (by simp))
      have hb := noDict_isDct (noDict_t h b (by simp))
      have eb := lwhole_spec (S := S) (a := -1) (b := 1) hb
      cases b with
      | int c =>
        rw [inB_int] at eb
        by_cases q1 : -1 ≤ c
        · by_cases q2 : c ≤ 1
          · cases a with
            | dict _ => cases ha
            | str x =>
              by_cases hx : x = blank
              · simp [g_law_cell_good, eb, q1, q2, goodC, lname_spec, blank_is, hx]
              · have ln := lname_spec (x := x) (S := S)
                by_cases hnb : nameB x = true
                · rw [hnb] at ln
                  by_cases huc : u + c = 0
                  · simp [g_law_cell_good, eb, q1, q2, goodC, ln, blank_is, hx, vAnd, truD, hnb, huc]
                  · simp [g_law_cell_good, eb, q1, q2, goodC, ln, blank_is, hx, vAnd, truD, hnb, huc]
                · have hnb' : nameB x = false := by simpa using hnb
                  rw [hnb'] at ln
                  simp [g_law_cell_good, eb, q1, q2, goodC, ln, blank_is, hx, vAnd, truD, hnb']
            | _ =>
              have ln := lname_else (S := S) ha (fun x z => by cases z)
              simp [g_law_cell_good, eb, q1, q2, goodC, ln, vAnd, truD]
          · simp only [q1, q2, decide_true, decide_false, Bool.and_false] at eb
            cases a <;> first | (simp [g_law_cell_good, eb, q1, q2, goodC]; done) | cases ha
        · simp only [q1, decide_false, Bool.false_and] at eb
          cases a <;> first | (simp [g_law_cell_good, eb, q1, goodC]; done) | cases ha
      | dict _ => cases hb
      | _ =>
        have eb' : sem_law_whole [.val _, .val (.int (-1)), .val (.int 1)] S = .ok (.val (.bool false)) S := eb
        cases a <;> first | (simp [g_law_cell_good, eb', goodC]; done) | cases ha
  | _ => simp [g_law_cell_good, goodC]
/-! ### rows -/
def nmC : D → Option Str
  | .tuple [.str x, .int _] => some x
  | _ => none
def namesR (r : List D) : List Str := r.filterMap nmC
theorem goodC_name {u : Int} {d : D} (h : goodC u d = true) (hn : d ≠ .none) : ∃ x c, d = .tuple [.str x, .int c] := by
  unfold goodC at h
  split at h
  · exact absurd rfl hn
  · exact ⟨_, _, rfl⟩
  · cases h
def stL (d : D) (ns : List Str) (y2 y3 y4 y5 : Option T) : En := [some (.val d), some (.own (ns.map PyData.str)), y2, y3, y4, y5]
theorem lnames_run {d : D} {u : Int} {ns : List Str} {y2 y3 y4 : Option T} : ∀ r : List D, (∀ x ∈ r, goodC u x = true) → lcM (bName 5) (cB (cUn gNotN (cVarU 5))) (cBin gIx (cVarU 5) (cC (.int 0))) (stL d ns y2 y3 y4 none) r S = .ok ((namesR r).map PyData.str) S
  | [], _ => rfl
  | x :: r, h => by
    have ih := lnames_run (d := d) (u := u) (ns := ns) (y2 := y2) (y3 := y3) (y4 := y4) r fun z hz => h z (List.mem_cons_of_mem _ hz)
    unfold lcM
    have eb : bName 5 x (stL d ns y2 y3 y4 none) = some (stL d ns y2 y3 y4 (some (.val x))) := rfl
    rw [eb]
    by_cases hn : x = .none
    · subst hn
      have et : (cB (cUn gNotN (cVarU 5))) (stL d ns y2 y3 y4 (some (.val .none))) S = .ok false S := by unfold stL; simp
      simp only [et, ih]
      rfl
    · obtain ⟨y, c, rfl⟩ := goodC_name (h x (List.mem_cons_self ..)) hn
      have et : (cB (cUn gNotN (cVarU 5))) (stL d ns y2 y3 y4 (some (.val (.tuple [.str y, .int c])))) S = .ok true S := by unfold stL; simp
      have ee : (cBin gIx (cVarU 5) (cC (.int 0))) (stL d ns y2 y3 y4 (some (.val (.tuple [.str y, .int c])))) S = .ok (.val (.str y)) S := by unfold stL; simp
      have ea : asD (T.val (.str y)) = some (.str y) := rfl
      simp only [et, ee, ea, ih, e_l_ok]
      rfl
theorem lall_run {d : D} {u : Int} {ns : List Str} {y3 y4 : Option T} : ∀ r : List D, (∀ x ∈ r, noDict x = true) → lcM (bName 5) bYes (vOr (cUn gIsN (cVarU 5)) (cCall sem_law_cell_good (aCons (cVar 5) (aCons (cVar 2) aNil)))) (stL d ns (some (.val (.int u))) y3 y4 none) r S = .ok (r.map fun x => .bool (goodC u x)) S := fun r h => by
  refine lcM_map (fun x => .bool (goodC u x)) r fun x hx => ?_
  refine ⟨stL d ns (some (.val (.int u))) y3 y4 (some (.val x)), .val (.bool (goodC u x)), rfl, ?_, rfl⟩
  by_cases hn : x = .none
  · subst hn
    unfold stL
    simp [vOr, truD, goodC]
  · have e := lcell_spec (S := S) (u := u) (h x hx) hn
    have nn : isNone x = false := by cases x <;> first | rfl | exact absurd rfl hn
    unfold stL
    simp [vOr, truD, nn, e]
theorem lrow_step {d : D} {r0s r0 : List D} {w : Nat} {u : Int} {r : List D} {ns : List Str} {y4 y5 : Option T} (hd : gIx d (.int 1) = some (.val (.tuple r0s))) (h0 : gIx (.tuple r0s) (.int 0) = some (.val (.tuple r0))) (hw : r0.length = w) (hr : ∀ x ∈ r, noDict x = true) (hl : ns.length + r.length ≤ 100000) :
    (if r.length = w ∧ r.all (goodC u) = true then ∃ z4, b1_law_is_case (stL d ns (some (.val (.int u))) (some (.val (.tuple r))) y4 none) S = .nx (stL d (ns ++ namesR r) (some (.val (.int u))) (some (.val (.tuple r))) z4 none) S
    else b1_law_is_case (stL d ns (some (.val (.int u))) (some (.val (.tuple r))) y4 none) S = .rt (.val (.bool false)) S) := by
  have l1 := g_len_t (xs := r)
  have l2 := g_len_t (xs := r0)
  rw [hw] at l2
  unfold b1_law_is_case
  by_cases c1 : r.length = w
  · have t1 : sIf (cB (cBin (gEq true) (cB1 gLen (uCons (cVarU 3) uNil)) (cB1 gLen (uCons (cBin gIx (cBin gIx (cVarU 0) (cC (.int 1))) (cC (.int 0))) uNil)))) (sRet (cC (.bool false))) sSkip (stL d ns (some (.val (.int u))) (some (.val (.tuple r))) y4 none) S = .nx (stL d ns (some (.val (.int u))) (some (.val (.tuple r))) y4 none) S := by
      refine if_f (S1 := S) ?_ rfl
      unfold stL
      simp [l1, l2, hd, h0, c1, -g_len_t]
    have la := lall_run (S := S) (d := d) (u := u) (ns := ns) (y3 := some (.val (.tuple r))) (y4 := y4) r hr
    have ga := g_all_m (p := goodC u) (xs := r)
    by_cases c2 : r.all (goodC u) = true
    · rw [if_pos ⟨c1, c2⟩]
      rw [c2] at ga
      have ln := lnames_run (S := S) (d := d) (u := u) (ns := ns) (y2 := some (.val (.int u))) (y3 := some (.val (.tuple r))) (y4 := y4) r fun x hx => List.all_eq_true.mp c2 x hx
      have nl : (namesR r).length ≤ r.length := List.length_filterMap_le _ _
      have ad : gAdd (.list (ns.map PyData.str)) (.list ((namesR r).map PyData.str)) = some (.own ((ns ++ namesR r).map PyData.str)) := by
        rw [g_add_l (le_line (by simp; omega)), List.map_append]
      refine ⟨y4, runs_seq t1 (runs_seq (if_f (S1 := S) ?_ rfl) ?_)⟩
      · generalize (r.map fun x => PyData.bool (goodC u x)) = RB at *
        unfold stL at la ⊢
        simp [wipeE, la, ga]
      · have lc : (cLc (cSeq (cVarU 3)) (bName 5) (cB (cUn gNotN (cVarU 5))) (cBin gIx (cVarU 5) (cC (.int 0))) [5]) (stL d ns (some (.val (.int u))) (some (.val (.tuple r))) y4 none) S = .ok (.own ((namesR r).map PyData.str)) S := by
          generalize (namesR r).map PyData.str = NR at *
          unfold stL at ln ⊢
          simp at ln ⊢
          simp [wipeE, ln]
        have v1 : (cVarU 1) (stL d ns (some (.val (.int u))) (some (.val (.tuple r))) y4 none) S = .ok (.own (ns.map PyData.str)) S := by unfold stL; simp
        rw [asg_ok6 (bin_dd6 v1 rfl lc rfl ad)]
        rfl
    · have c2' : r.all (goodC u) = false := by simpa using c2
      rw [if_neg (fun z => c2 z.2)]
      rw [c2'] at ga
      refine runs_seq t1 (runs_rt (if_t (S1 := S) ?_ ?_))
      · generalize (r.map fun x => PyData.bool (goodC u x)) = RB at *
        unfold stL at la ⊢
        simp [wipeE, la, ga]
      · unfold stL
        simp
  · rw [if_neg (fun z => c1 z.1)]
    refine runs_rt (if_t (S1 := S) ?_ ?_)
    · unfold stL
      have : ¬ ((r.length : Int) = (w : Int)) := by omega
      simp [l1, l2, hd, h0, this, -g_len_t]
    · unfold stL
      simp
/-- the pairs of units and rows are let by, all as wide -/
def rowsGood (w : Nat) : List D → List D → Bool
  | .int u :: us, .tuple r :: rs => decide (r.length = w) && r.all (goodC u) && rowsGood w us rs
  | _, _ => true
def rowsNames : List D → List Str
  | .tuple r :: rs => namesR r ++ rowsNames rs
  | _ => []
theorem lrows_run {d : D} {w : Nat} {r0s r0 : List D} (hd : gIx d (.int 1) = some (.val (.tuple r0s))) (h0 : gIx (.tuple r0s) (.int 0) = some (.val (.tuple r0))) (hw : r0.length = w) (hw15 : w ≤ 15) : ∀ (us rs : List D) (ns : List Str) (y2 y3 y4 : Option T), us.length = rs.length → us.all (inB 1 30) = true → rs.all isTup = true → (∀ x ∈ rs, noDict x = true) → ns.length + 15 * rs.length ≤ 100000 →
    (if rowsGood w us rs = true then ∃ z2 z3 z4, forL (bTup 2 (bCons (bName 2) (bCons (bName 3) bNil))) b1_law_is_case (zipL us rs) (stL d ns y2 y3 y4 none) S = .nx (stL d (ns ++ rowsNames rs) z2 z3 z4 none) S
    else forL (bTup 2 (bCons (bName 2) (bCons (bName 3) bNil))) b1_law_is_case (zipL us rs) (stL d ns y2 y3 y4 none) S = .rt (.val (.bool false)) S)
  | [], [], ns, y2, y3, y4, _, _, _, _, _ => by
    rw [if_pos (show rowsGood w [] [] = true from rfl)]
    exact ⟨y2, y3, y4, by simp [zipL_nil, forL, rowsNames]⟩
  | [], r :: rs, ns, y2, y3, y4, hl, _, _, _, _ => by cases hl
  | u :: us, [], ns, y2, y3, y4, hl, _, _, _, _ => by cases hl
  | u :: us, r :: rs, ns, y2, y3, y4, hl, hu, ht, hn, hs => by
    simp only [List.length_cons] at hl hs
    rw [List.all_cons, Bool.and_eq_true] at hu ht
    cases u with
    | int u =>
      cases r with
      | tuple r =>
        have hr := noDict_t (hn _ (List.mem_cons_self ..))
        rw [zipL_cons]
        have e0 : (bTup 2 (bCons (bName 2) (bCons (bName 3) bNil))) (.tuple [.int u, .tuple r]) (stL d ns y2 y3 y4 none) = some (stL d ns (some (.val (.int u))) (some (.val (.tuple r))) y4 none) := rfl
        rw [forL_cons e0]
        by_cases hrl : r.length ≤ 90000
        rotate_left
        · have c0 : ¬ (r.length = w ∧ r.all (goodC u) = true) := fun z => by omega
          have cg : ¬ rowsGood w (.int u :: us) (.tuple r :: rs) = true := fun z => by
            unfold rowsGood at z
            rw [Bool.and_eq_true, Bool.and_eq_true] at z
            exact c0 ⟨of_decide_eq_true z.1.1, z.1.2⟩
          rw [if_neg cg]
          have l1 := g_len_t (xs := r)
          have l2 := g_len_t (xs := r0)
          rw [hw] at l2
          have body : b1_law_is_case (stL d ns (some (.val (.int u))) (some (.val (.tuple r))) y4 none) S = .rt (.val (.bool false)) S := by
            unfold b1_law_is_case
            refine runs_rt (if_t (S1 := S) ?_ ?_)
            · unfold stL
              have : ¬ ((r.length : Int) = (w : Int)) := by omega
              simp [l1, l2, hd, h0, this, -g_len_t]
            · unfold stL
              simp
          rw [body]
        by_cases c : r.length = w ∧ r.all (goodC u) = true
        · have st := lrow_step (S := S) (d := d) (w := w) (u := u) (r := r) (ns := ns) (y4 := y4) (y5 := none) hd h0 hw hr (by omega)
          rw [if_pos c] at st
          obtain ⟨z4, st⟩ := st
          rw [st]
          simp only
          have nl : (namesR r).length ≤ r.length := List.length_filterMap_le _ _
          have ih := lrows_run hd h0 hw hw15 us rs (ns ++ namesR r) (some (.val (.int u))) (some (.val (.tuple r))) z4 (by omega) hu.2 ht.2 (fun x hx => hn x (List.mem_cons_of_mem _ hx)) (by rw [List.length_append]; omega)
          have eg : rowsGood w (.int u :: us) (.tuple r :: rs) = rowsGood w us rs := by
            show (decide (r.length = w) && r.all (goodC u) && rowsGood w us rs) = _
            rw [decide_eq_true c.1, c.2]
            rfl
          have en : ns ++ rowsNames (.tuple r :: rs) = ns ++ namesR r ++ rowsNames rs := by
            show ns ++ (namesR r ++ rowsNames rs) = _
            rw [List.append_assoc]
          rw [eg, en]
          exact ih
        · have st : b1_law_is_case (stL d ns (some (.val (.int u))) (some (.val (.tuple r))) y4 none) S = .rt (.val (.bool false)) S := by
            by_cases hz : ns.length + r.length ≤ 100000
            · have st := lrow_step (S := S) (d := d) (w := w) (u := u) (r := r) (ns := ns) (y4 := y4) (y5 := none) hd h0 hw hr hz
              rw [if_neg c] at st
              exact st
            · have l1 := g_len_t (xs := r)
              have l2 := g_len_t (xs := r0)
              rw [hw] at l2
              unfold b1_law_is_case
              refine runs_rt (if_t (S1 := S) ?_ ?_)
              · unfold stL
                have : ¬ ((r.length : Int) = (w : Int)) := by omega
                simp [l1, l2, hd, h0, this, -g_len_t]
              · unfold stL
                simp
          have cg : ¬ rowsGood w (.int u :: us) (.tuple r :: rs) = true := fun z => by
            unfold rowsGood at z
            rw [Bool.and_eq_true, Bool.and_eq_true] at z
            exact c ⟨of_decide_eq_true z.1.1, z.1.2⟩
          rw [if_neg cg, st]
      | _ => cases ht.1
    | _ => cases hu.1
/-! ### it is the program's -/
theorem cells_scan {u : Int} (hu : 1 ≤ u) : ∀ (r : List D) (ns : List Str), ns.Nodup → cellsScan u r ns = if r.all (goodC u) = true ∧ (ns ++ namesR r).Nodup then some (ns ++ namesR r) else none
  | [], ns, hn => by
    have : (ns ++ namesR []) = ns := by simp [namesR]
    rw [this, if_pos ⟨rfl, hn⟩]
    rfl
  | x :: r, ns, hn => by
    by_cases hx : x = .none
    · subst hx
      have ih := cells_scan hu r ns hn
      have e : namesR (.none :: r) = namesR r := rfl
      have e2 : (PyData.none :: r).all (goodC u) = r.all (goodC u) := rfl
      rw [e, e2, ← ih]
      rfl
    · by_cases hc : ∃ y c, x = .tuple [.str y, .int c]
      · obtain ⟨y, c, rfl⟩ := hc
        have es : cellsScan u (.tuple [.str y, .int c] :: r) ns = if cellOk y c = true ∧ y ∉ ns ∧ u + c ≠ 0 then cellsScan u r (ns ++ [y]) else none := rfl
        have en : namesR (.tuple [.str y, .int c] :: r) = y :: namesR r := rfl
        have eg : (cellOk y c = true ∧ u + c ≠ 0) ↔ goodC u (.tuple [.str y, .int c]) = true := by
          unfold cellOk goodC
          by_cases hb : y = blank
          · have nb : nameB blank = false := by decide +kernel
            rw [hb, nb]
            simp
            omega
          · simp [hb]
            exact ⟨fun z => ⟨z.1.1, z.1.2, z.2⟩, fun z => ⟨⟨z.1, z.2.1⟩, z.2.2⟩⟩
        rw [es, en, List.all_cons]
        by_cases hy : y ∈ ns
        · rw [if_neg (fun z => z.2.1 hy), if_neg (fun z => ?_)]
          have := (List.nodup_append.mp z.2).2.2 y hy y (List.mem_cons_self ..)
          exact this rfl
        · by_cases hg : goodC u (.tuple [.str y, .int c]) = true
          · obtain ⟨h1, h2⟩ := eg.mpr hg
            rw [if_pos ⟨h1, hy, h2⟩, hg, Bool.true_and]
            have hn2 : (ns ++ [y]).Nodup := by
              rw [List.nodup_append]
              refine ⟨hn, by simp, fun a ha b hb => ?_⟩
              simp at hb
              rw [hb]
              exact fun z => hy (z ▸ ha)
            rw [cells_scan hu r (ns ++ [y]) hn2, show ns ++ [y] ++ namesR r = ns ++ y :: namesR r by simp]
          · have hg' : goodC u (.tuple [.str y, .int c]) = false := by simpa using hg
            rw [if_neg (fun z => hg (eg.mp ⟨z.1, z.2.2⟩)), hg', Bool.false_and, if_neg (by simp)]
      · have hg : goodC u x = false := by
          cases h : goodC u x with
          | false => rfl
          | true => exact absurd (goodC_name h hx) hc
        have es : cellsScan u (x :: r) ns = none := by
          unfold cellsScan
          split
          · rename_i q; cases q
          · rename_i q; cases q; exact absurd rfl hx
          · rename_i q; cases q; exact absurd ⟨_, _, rfl⟩ hc
          · rfl
        rw [es, List.all_cons, hg, Bool.false_and, if_neg (by simp)]
theorem rows_scan {w : Nat} : ∀ (us rs : List D) (ns : List Str), ns.Nodup → us.length = rs.length → us.all (inB 1 30) = true → rs.all (wideIs w) = true → rowsScan us rs ns = if rowsGood w us rs = true ∧ (ns ++ rowsNames rs).Nodup then some (ns ++ rowsNames rs) else none
  | [], [], ns, hn, _, _, _ => by
    have : ns ++ rowsNames [] = ns := by simp [rowsNames]
    rw [this, if_pos ⟨(show rowsGood w [] [] = true from rfl), hn⟩]
    rfl
  | [], r :: rs, ns, _, hl, _, _ => by cases hl
  | u :: us, [], ns, _, hl, _, _ => by cases hl
  | u :: us, r :: rs, ns, hn, hl, hu, ht => by
    simp only [List.length_cons] at hl
    rw [List.all_cons, Bool.and_eq_true] at hu ht
    cases u with
    | int u =>
      have hu1 : 1 ≤ u := by
        have := hu.1
        unfold inB at this
        simp at this
        omega
      cases r with
      | tuple r =>
        have hw : r.length = w := of_decide_eq_true ht.1
        show (cellsScan u r ns).bind (rowsScan us rs) = _
        rw [cells_scan hu1 r ns hn]
        have eg : rowsGood w (.int u :: us) (.tuple r :: rs) = (r.all (goodC u) && rowsGood w us rs) := by
          show (decide (r.length = w) && r.all (goodC u) && rowsGood w us rs) = _
          rw [decide_eq_true hw, Bool.true_and]
        have en : ns ++ rowsNames (.tuple r :: rs) = ns ++ namesR r ++ rowsNames rs := by
          show ns ++ (namesR r ++ rowsNames rs) = _
          rw [List.append_assoc]
        rw [eg, en]
        by_cases c : r.all (goodC u) = true ∧ (ns ++ namesR r).Nodup
        · rw [if_pos c, Option.bind_some, rows_scan us rs _ c.2 (by omega) hu.2 ht.2, c.1, Bool.true_and]
        · rw [if_neg c, Option.bind_none, if_neg (fun z => c ⟨?_, ?_⟩)]
          · have := z.1
            rw [Bool.and_eq_true] at this
            exact this.1
          · exact (List.nodup_append.mp z.2).1
      | _ => cases ht.1
    | _ => cases hu.1
end
end BV
/-! k06: any thing looked at by the law and by the program. -/
namespace BV
open PySem L2
section
variable {S : Sto}
theorem good_wide {w : Nat} : ∀ us rs : List D, us.length = rs.length → us.all (inB 1 30) = true → rs.all isTup = true → rowsGood w us rs = true → rs.all (wideIs w) = true
  | [], [], _, _, _, _ => rfl
  | [], r :: rs, hl, _, _, _ => by cases hl
  | u :: us, [], hl, _, _, _ => by cases hl
  | u :: us, r :: rs, hl, hu, ht, hg => by
    simp only [List.length_cons] at hl
    rw [List.all_cons, Bool.and_eq_true] at hu ht
    cases u with
    | int u =>
      cases r with
      | tuple r =>
        unfold rowsGood at hg
        rw [Bool.and_eq_true, Bool.and_eq_true] at hg
        rw [List.all_cons, good_wide us rs (by omega) hu.2 ht.2 hg.2, Bool.and_true]
        exact hg.1.1
      | _ => cases ht.1
    | _ => cases hu.1
theorem names_len {w : Nat} : ∀ rs : List D, rs.all (wideIs w) = true → (rowsNames rs).length ≤ w * rs.length
  | [], _ => by simp [rowsNames]
  | r :: rs, h => by
    rw [List.all_cons, Bool.and_eq_true] at h
    cases r with
    | tuple r =>
      have hw : r.length = w := of_decide_eq_true h.1
      have ih := names_len rs h.2
      have nl : (namesR r).length ≤ r.length := List.length_filterMap_le _ _
      have e : rowsNames (.tuple r :: rs) = namesR r ++ rowsNames rs := rfl
      rw [e, List.length_append, List.length_cons, Nat.mul_succ]
      omega
    | _ => cases h.1
theorem in_strs6 (x : Str) (xs : List Str) (neg : Bool) : gIn neg (.str x) (.list (xs.map PyData.str)) = some (.val (.bool (if neg then !decide (x ∈ xs) else decide (x ∈ xs)))) := by
  have e := gIn_l (neg := neg) (a := .str x) (ds := xs.map PyData.str) rfl (List.all_eq_true.mpr fun z hz => by obtain ⟨i, _, rfl⟩ := List.mem_map.mp hz; rfl)
  have : ((xs.map PyData.str).any fun d => PyData.eqv d (.str x)) = decide (x ∈ xs) := by
    rw [List.any_map, Bool.eq_iff_iff, List.any_eq_true, decide_eq_true_eq]
    constructor
    · rintro ⟨y, hy, e⟩
      have e : PyData.eqv (.str y) (.str x) = true := e
      have : y = x := by simpa [PyData.eqv] using e
      subst this
      exact hy
    · intro h
      exact ⟨x, h, by show PyData.eqv (.str x) (.str x) = true; simp [PyData.eqv]⟩
  rw [this] at e
  exact e
theorem caseB_eq (us rows : List D) : caseB (.tuple [.tuple us, .tuple rows]) = (shapeB (.tuple [.tuple us, .tuple rows]) && us.all (inB 1 30) && (match rowsScan us rows [] with | some ns => decide (blank ∈ ns) | none => false)) := rfl
theorem shapeB_eq (us rows : List D) : shapeB (.tuple [.tuple us, .tuple rows]) = (decide (us.length = rows.length) && decide (2 ≤ us.length) && decide (us.length ≤ 15) && rows.all isTup && (match rows with
    | .tuple r :: _ => decide (2 ≤ r.length) && decide (r.length ≤ 15) && rows.all (wideIs r.length)
    | _ => false)) := rfl
theorem lcase_spec {d : D} (h : noDict d = true) : sem_law_is_case [.val d] S = .ok (.val (.bool (caseB d))) S := by
  unfold sem_law_is_case
  refine fn_rt ?_
  cases d with
  | dict _ => cases h
  | tuple ds =>
    match ds, h with
    | [], _ => simp [g_law_is_case, caseB]
    | [a], _ => simp [g_law_is_case, caseB]
    | a :: b :: c :: ds, _ =>
      have : ¬ (ds.length : Int) + 1 + 1 + 1 = 2 := by omega
      simp [g_law_is_case, caseB, this]
    | [a, b], h =>
      have ha := noDict_isDct (noDict_t h a (by simp))
      have hb := noDict_isDct (noDict_t h b (by simp))
      cases a with
      | tuple us =>
        cases b with
        | tuple rows =>
          have hr := noDict_t (noDict_t h (.tuple rows) (by simp))
          have hu := noDict_t (noDict_t h (.tuple us) (by simp))
          have l1 := g_len_t (xs := us)
          have l2 := g_len_t (xs := rows)
          have st0 : ∀ r : Fl, (sSeq (sIf (bOr (bNot (cB (cChain gLe gLe (cC (.int 2)) (cB1 gLen (uCons (cBin gIx (cVarU 0) (cC (.int 0))) uNil)) (cC (.int 15))))) (bNot (cT (cB1 gAll (uCons (cLc (cSeq (cBin gIx (cVarU 0) (cC (.int 0)))) (bName 4) bYes (cCall sem_law_whole (aCons (cVar 4) (aCons (cC (.int 1)) (aCons (cC (.int 30)) aNil)))) [4]) uNil))))) (sRet (cC (.bool false))) sSkip)
    (sSeq (sIf (bOr (bNot (cT (cB1 gAll (uCons (cLc (cSeq (cBin gIx (cVarU 0) (cC (.int 1)))) (bName 3) bYes (cUn (gIsi "tuple") (cVarU 3)) [3]) uNil)))) (bNot (cB (cChain gLe gLe (cC (.int 2)) (cB1 gLen (uCons (cBin gIx (cBin gIx (cVarU 0) (cC (.int 1))) (cC (.int 0))) uNil)) (cC (.int 15)))))) (sRet (cC (.bool false))) sSkip)
    (sSeq (sAsg 1 (cList aNil))
    (sSeq (sFor (cRng gZip (uCons (cBin gIx (cVarU 0) (cC (.int 0))) (uCons (cBin gIx (cVarU 0) (cC (.int 1))) uNil))) (bTup 2 (bCons (bName 2) (bCons (bName 3) bNil))) b1_law_is_case)
    (sRet (vAnd (cBin (gEq false) (cUn gCountSet (cVarU 1)) (cB1 gLen (uCons (cVarU 1) uNil))) (cBin (gIn false) (cC (.str " ")) (cVarU 1)))))))) [some (.val (.tuple [.tuple us, .tuple rows])), none, none, none, none, none] S = r → us.length = rows.length → g_law_is_case [some (.val (.tuple [.tuple us, .tuple rows])), none, none, none, none, none] S = r := fun r hr h1 => by
            have h1' : (us.length : Int) = (rows.length : Int) := by omega
            unfold g_law_is_case
            refine runs_seq (if_f (S1 := S) (by simp) rfl) (runs_seq (if_f (S1 := S) (by simp [l1, l2, h1', -g_len_t]) rfl) hr)
          by_cases h1 : us.length = rows.length
          · refine st0 _ ?_ h1
            have la := lcM_map (S := S) (b := bName 4) (elt := cCall sem_law_whole (aCons (cVar 4) (aCons (cC (.int 1)) (aCons (cC (.int 30)) aNil)))) (ρ := [some (.val (.tuple [.tuple us, .tuple rows])), none, none, none, none, none]) (fun d => .bool (inB 1 30 d)) us (fun d hd => by
              have e := lwhole_spec (S := S) (a := 1) (b := 30) (noDict_isDct (hu d hd))
              refine ⟨[some (.val (.tuple [.tuple us, .tuple rows])), none, none, none, some (.val d), none], .val (.bool (inB 1 30 d)), rfl, ?_, rfl⟩
              simp [e])
            have ga := g_all_m (p := inB 1 30) (xs := us)
            have lb := lcM_map (S := S) (b := bName 3) (elt := cUn (gIsi "tuple") (cVarU 3)) (ρ := [some (.val (.tuple [.tuple us, .tuple rows])), none, none, none, none, none]) (fun d => .bool (isTup d)) rows (fun d hd => by
              refine ⟨[some (.val (.tuple [.tuple us, .tuple rows])), none, none, some (.val d), none, none], .val (.bool (isTup d)), rfl, ?_, rfl⟩
              simp [gIsi_tuple_isT (noDict_isDct (hr d hd))])
            have gb := g_all_m (p := isTup) (xs := rows)
            have gc : ∀ (k : Nat) (xs : List D), xs.length = k → cChain gLe gLe (cC (.int 2)) (cB1 gLen (uCons (cC (.tuple xs)) uNil)) (cC (.int 15)) [] S = .ok (.val (.bool (decide (2 ≤ k) && decide (k ≤ 15)))) S := fun k xs hk => by
              have l3 := g_len_t (xs := xs)
              rw [hk] at l3
              by_cases c1 : 2 ≤ k
              · have c1' : (2 : Int) ≤ (k : Int) := by omega
                by_cases c2 : k ≤ 15
                · have c2' : (k : Int) ≤ 15 := by omega
                  simp [l3, c1, c2, c1', c2', -g_len_t]
                · have c2' : ¬ (k : Int) ≤ 15 := by omega
                  simp [l3, c1, c2, c1', c2', -g_len_t]
              · have c1' : ¬ (2 : Int) ≤ (k : Int) := by omega
                simp [l3, c1, c1', -g_len_t]
            by_cases h2 : 2 ≤ us.length ∧ us.length ≤ 15
            rotate_left
            · have ec : caseB (.tuple [.tuple us, .tuple rows]) = false := by
                rw [caseB_eq, shapeB_eq]
                have : (decide (2 ≤ us.length) && decide (us.length ≤ 15)) = false := by
                  rw [Bool.eq_false_iff]
                  intro z
                  rw [Bool.and_eq_true, decide_eq_true_eq, decide_eq_true_eq] at z
                  exact h2 z
                simp only [Bool.and_assoc] at this ⊢
                rw [← Bool.and_assoc (decide (2 ≤ us.length)), this]
                simp
              rw [ec]
              refine runs_rt (if_t (S1 := S) ?_ (by simp))
              by_cases c1 : 2 ≤ us.length
              · have c1' : (2 : Int) ≤ (us.length : Int) := by omega
                have c2' : ¬ (us.length : Int) ≤ 15 := by omega
                simp [l1, c1', c2', -g_len_t]
              · have c1' : ¬ (2 : Int) ≤ (us.length : Int) := by omega
                simp [l1, c1', -g_len_t]
            have c1' : (2 : Int) ≤ (us.length : Int) := by omega
            have c2' : (us.length : Int) ≤ 15 := by omega
            by_cases h3 : us.all (inB 1 30) = true
            rotate_left
            · have h3' : us.all (inB 1 30) = false := by simpa using h3
              have ec : caseB (.tuple [.tuple us, .tuple rows]) = false := by
                rw [caseB_eq]
                rw [h3']
                simp
              rw [ec]
              rw [h3'] at ga
              refine runs_rt (if_t (S1 := S) ?_ (by simp))
              generalize (us.map fun d => PyData.bool (inB 1 30 d)) = UB at *
              simp [l1, c1', c2', wipeE, la, ga, -g_len_t]
            rw [h3] at ga
            refine runs_seq (if_f (S1 := S) ?_ rfl) ?_
            · generalize (us.map fun d => PyData.bool (inB 1 30 d)) = UB at *
              simp [l1, c1', c2', wipeE, la, ga, -g_len_t]
            by_cases h4 : rows.all isTup = true
            rotate_left
            · have h4' : rows.all isTup = false := by simpa using h4
              have ec : caseB (.tuple [.tuple us, .tuple rows]) = false := by
                rw [caseB_eq, shapeB_eq]
                rw [h4']
                simp
              rw [ec]
              rw [h4'] at gb
              refine runs_rt (if_t (S1 := S) ?_ (by simp))
              generalize (rows.map fun d => PyData.bool (isTup d)) = UB at *
              simp [wipeE, lb, gb]
            rw [h4] at gb
            cases rows with
            | nil => rw [List.length_nil] at h1; omega
            | cons r0 rs =>
              cases r0 with
              | tuple r0 =>
                have l3 := g_len_t (xs := r0)
                have i1 : gIx (.tuple [.tuple us, .tuple (.tuple r0 :: rs)]) (.int 1) = some (.val (.tuple (.tuple r0 :: rs))) := rfl
                have i0 : gIx (.tuple (.tuple r0 :: rs)) (.int 0) = some (.val (.tuple r0)) := by
                  rw [g_ix_t, show (0 : Int) = ((0 : Nat) : Int) from rfl, atI_nat (v := .tuple r0) rfl]
                  rfl
                by_cases h5 : 2 ≤ r0.length ∧ r0.length ≤ 15
                rotate_left
                · have ec : caseB (.tuple [.tuple us, .tuple (.tuple r0 :: rs)]) = false := by
                    rw [caseB_eq, shapeB_eq]
                    have : (decide (2 ≤ r0.length) && decide (r0.length ≤ 15)) = false := by
                      rw [Bool.eq_false_iff]
                      intro z
                      rw [Bool.and_eq_true, decide_eq_true_eq, decide_eq_true_eq] at z
                      exact h5 z
                    dsimp only
                    rw [this]
                    simp
                  rw [ec]
                  refine runs_rt (if_t (S1 := S) ?_ (by simp))
                  generalize (PyData.tuple r0 :: rs).map (fun d => PyData.bool (isTup d)) = UB at *
                  by_cases c3 : 2 ≤ r0.length
                  · have c3' : (2 : Int) ≤ (r0.length : Int) := by omega
                    have c4' : ¬ (r0.length : Int) ≤ 15 := by omega
                    generalize PyData.tuple r0 :: rs = RR at *
                    simp [wipeE, lb, gb, i1, i0, l3, c3', c4', -g_len_t, -g_ix_t]
                  · have c3' : ¬ (2 : Int) ≤ (r0.length : Int) := by omega
                    generalize PyData.tuple r0 :: rs = RR at *
                    simp [wipeE, lb, gb, i1, i0, l3, c3', -g_len_t, -g_ix_t]
                have c3' : (2 : Int) ≤ (r0.length : Int) := by omega
                have c4' : (r0.length : Int) ≤ 15 := by omega
                refine runs_seq (if_f (S1 := S) ?_ rfl) ?_
                · generalize (PyData.tuple r0 :: rs).map (fun d => PyData.bool (isTup d)) = UB at *
                  generalize PyData.tuple r0 :: rs = RR at *
                  simp [wipeE, lb, gb, i1, i0, l3, c3', c4', -g_len_t, -g_ix_t]
                generalize hRR : PyData.tuple r0 :: rs = RR at *
                have e1 := lrows_run (S := S) (d := .tuple [.tuple us, .tuple RR]) (w := r0.length) (r0s := RR) (r0 := r0) i1 i0 rfl h5.2 us RR [] none none none h1 h3 h4 hr (by simp; omega)
                have hshape : shapeB (.tuple [.tuple us, .tuple RR]) = RR.all (wideIs r0.length) := by
                  rw [shapeB_eq]
                  rw [decide_eq_true h1, decide_eq_true h2.1, decide_eq_true h2.2, h4, ← hRR]
                  simp only [decide_eq_true h5.1, decide_eq_true h5.2, Bool.true_and]
                refine runs_seq (ρ1 := stL (.tuple [.tuple us, .tuple RR]) [] none none none none) (S1 := S) (by unfold stL; simp) ?_
                by_cases hg : rowsGood r0.length us RR = true
                · rw [if_pos hg] at e1
                  obtain ⟨z2, z3, z4, e1⟩ := e1
                  rw [List.nil_append] at e1
                  have hw := good_wide us RR h1 h3 h4 hg
                  have sc := rows_scan (w := r0.length) us RR [] List.nodup_nil h1 h3 hw
                  rw [List.nil_append, hg] at sc
                  have nl := names_len RR hw
                  have hm : r0.length * RR.length ≤ 15 * 15 := Nat.mul_le_mul h5.2 (by omega)
                  have ec : caseB (.tuple [.tuple us, .tuple RR]) = (decide ((rowsNames RR).Nodup) && decide (blank ∈ rowsNames RR)) := by
                    rw [caseB_eq]
                    rw [hshape, hw, h3, sc]
                    by_cases nd : (rowsNames RR).Nodup
                    · simp [nd]
                    · simp [nd]
                  rw [ec]
                  generalize rowsNames RR = NM at *
                  have cs : gCountSet (.list (NM.map PyData.str)) = some (.val (.int ((once NM).length : Int))) := by
                    unfold gCountSet
                    have so : strsOf (NM.map PyData.str) = some NM := strsOf_map _
                    simp only [so]
                    rw [if_pos (by omega)]
                  have gn := in_strs6 blank NM false
                  rw [if_neg (by simp)] at gn
                  have lf : gLen [.list (NM.map PyData.str)] = some (.val (.int (NM.length : Int))) := by rw [g_len_l, List.length_map]
                  have en : (((once NM).length : Int) = (NM.length : Int)) ↔ NM.Nodup := by rw [← once_nodup6]; omega
                  refine runs_seq (ρ1 := stL (.tuple [.tuple us, .tuple RR]) NM z2 z3 z4 none) (S1 := S) ?_ ?_
                  · rw [← e1]
                    unfold stL
                    simp [i1]
                  · unfold stL
                    generalize NM.map PyData.str = N at *
                    by_cases nd : NM.Nodup
                    · have en' := en.mpr nd
                      simp [cs, lf, blank_is, gn, nd, en', -g_len_l]
                    · have en' : ¬ (((once NM).length : Int) = (NM.length : Int)) := fun z => nd (en.mp z)
                      simp [cs, lf, blank_is, gn, nd, en', -g_len_l]
                rw [if_neg hg] at e1
                · have ec : caseB (.tuple [.tuple us, .tuple RR]) = false := by
                    rw [caseB_eq]
                    rw [hshape]
                    by_cases hw : RR.all (wideIs r0.length) = true
                    · have sc := rows_scan (w := r0.length) us RR [] List.nodup_nil h1 h3 hw
                      rw [if_neg (fun z => hg z.1)] at sc
                      rw [sc]
                      simp
                    · have : RR.all (wideIs r0.length) = false := by simpa using hw
                      rw [this]
                      simp
                  rw [ec]
                  refine runs_rt ?_
                  rw [← e1]
                  unfold stL
                  simp [i1]
              | _ => rw [List.all_cons, Bool.and_eq_true] at h4; cases h4.1
          · have h1' : ¬ (us.length : Int) = (rows.length : Int) := by omega
            have ec : caseB (.tuple [.tuple us, .tuple rows]) = false := by
              rw [caseB_eq, shapeB_eq]
              rw [decide_eq_false h1]
              simp
            rw [ec]
            unfold g_law_is_case
            refine runs_seq (if_f (S1 := S) (by simp) rfl) (runs_rt (if_t (S1 := S) (by simp [l1, l2, h1', -g_len_t]) (by simp)))
        | dict _ => cases hb
        | _ => simp [g_law_is_case, caseB]
      | dict _ => cases ha
      | _ => cases b <;> first | (simp [g_law_is_case, caseB]; done) | cases hb
  | _ => simp [g_law_is_case, caseB]
end
end BV
/-! k06: things spoilt. -/
namespace BV
open PySem L2
@[simp] theorem e_lm2 {i : Nat} {fa : SE} {m : List D → List D → Option (List D × D)} {fs : SA} {ρ : En} {S : Sto} : sLM2 i fa m fs ρ S = (match ρ[i]? with
  | some (some (.own2 xss)) => sD fa (fun da ρ S => match da with
    | .int j => (match ixN xss.length j with
      | some k => (match xss[k]? with
        | some xs => sA fs (fun ts ρ S => match allD ts with
          | some ds => (match m xs ds with | some (xs', _) => .nx (ρ.set i (some (.own2 (xss.set k xs')))) S | none => .bad)
          | none => .bad) ρ S
        | none => .bad)
      | none => .bad)
    | _ => .bad) ρ S
  | _ => .bad) := rfl
@[simp] theorem e_hz {i : Nat} {g : SS} {ρ : En} {S : Sto} : sHz i g ρ S = (match ρ[i]? with
  | some (some (.own2 xss)) => g (ρ.set i (some (.own (xss.map PyData.list)))) S
  | _ => .bad) := rfl
section
variable {S : Sto} {units : List Int} {rows : List (List CellM)} {w h n m : Nat}
theorem nds_all {ds : List D} (h : noDicts ds = true) : ∀ d ∈ ds, noDict d = true := noDicts_mem h
theorem nds_of {ds : List D} (h : ∀ d ∈ ds, noDict d = true) : noDicts ds = true := noDicts_all h
def oddL (n0 n1 : Str) : List D :=
  [.tuple [.str "q", .int 2], .tuple [.str "q", .int (-2)], .tuple [.str "q", .bool true], .tuple [.str "q", .none], .tuple [.str "", .int 0], .tuple [.str "abcd", .int 0], .tuple [.str "A", .int 0], .tuple [.str "a b", .int 0], .tuple [.str " ", .int 0],
   .tuple [.str " ", .int 1], .tuple [.none, .int 0], .tuple [.int 1, .int 0], .tuple [.tuple [.str "q"], .int 0], .tuple [.str "q"], .tuple [.str "q", .int 0, .int 0], .list [.str "q", .int 0], .str "q", .int 0, .tuple [],
   .tuple [.str "q", .str "0"], .tuple [.str "  ", .int 0], .tuple [.str n0, .int 0], .tuple [.str n1, .int 1], .tuple [.str " ", .bool false], .tuple [.list [.str "q"], .int 0], .none]
theorem odd_spec {ns : List Str} {n0 n1 : Str} (h0 : gIx (.list (ns.map PyData.str)) (.int 0) = some (.val (.str n0))) (h1 : gIx (.list (ns.map PyData.str)) (.int (-1)) = some (.val (.str n1))) {k : Nat} (hk : k < 26) :
    ∃ d, sem_law_odd_cell [.val (.int (k : Int)), .val (.list (ns.map PyData.str))] S = .ok (.val d) S ∧ noDict d = true ∧ lf d = lf d := by
  have hl : (oddL n0 n1).length = 26 := rfl
  have hd : noDicts (oddL n0 n1) = true := rfl
  refine ⟨(oddL n0 n1)[k]'(by omega), ?_, nds_all hd _ (List.getElem_mem _), rfl⟩
  have at1 : gIx (.list (oddL n0 n1)) (.int (k : Int)) = some (.val ((oddL n0 n1)[k]'(by omega))) := by
    rw [g_ix_l, atI_nat (List.getElem?_eq_getElem (by omega))]
    rfl
  have z26 : (26 : Nat) ≤ sizeLine := le_line (by decide)
  have a1 : gAdd (.list ((oddL n0 n1).take 9)) (.list (((oddL n0 n1).drop 9).take 10)) = some (.own ((oddL n0 n1).take 19)) := by
    rw [g_add_l (Nat.le_trans (by show 19 ≤ 26; decide) z26)]
    rfl
  have a2 : gAdd (.list ((oddL n0 n1).take 19)) (.list (((oddL n0 n1).drop 19).take 2)) = some (.own ((oddL n0 n1).take 21)) := by
    rw [g_add_l (Nat.le_trans (by show 21 ≤ 26; decide) z26)]
    rfl
  have a3 : gAdd (.list ((oddL n0 n1).take 21)) (.list ((oddL n0 n1).drop 21)) = some (.own (oddL n0 n1)) := by
    rw [g_add_l (Nat.le_trans (by show 26 ≤ 26; decide) z26)]
    rfl
  unfold sem_law_odd_cell
  refine fn_rt ?_
  unfold g_law_odd_cell
  generalize hN : ns.map PyData.str = N at *
  refine runs_seq (ρ1 := [some (.val (.int (k : Int))), some (.val (.list N)), some (.own ((oddL n0 n1).take 9))]) (S1 := S) ?_ ?_
  · simp
    rfl
  refine runs_seq (ρ1 := [some (.val (.int (k : Int))), some (.val (.list N)), some (.own ((oddL n0 n1).take 19))]) (S1 := S) ?_ ?_
  · have e : (cList (aCons (cTup (aCons (cC (.str " ")) (aCons (cC (.int 1)) aNil))) (aCons (cTup (aCons (cC .none) (aCons (cC (.int 0)) aNil))) (aCons (cTup (aCons (cC (.int 1)) (aCons (cC (.int 0)) aNil))) (aCons (cTup (aCons (cTup (aCons (cC (.str "q")) aNil)) (aCons (cC (.int 0)) aNil))) (aCons (cTup (aCons (cC (.str "q")) aNil)) (aCons (cTup (aCons (cC (.str "q")) (aCons (cC (.int 0)) (aCons (cC (.int 0)) aNil)))) (aCons (cList (aCons (cC (.str "q")) (aCons (cC (.int 0)) aNil))) (aCons (cC (.str "q")) (aCons (cC (.int 0)) (aCons (cTup aNil) aNil))))))))))) [some (.val (.int (k : Int))), some (.val (.list N)), some (.own ((oddL n0 n1).take 9))] S = .ok (.own (((oddL n0 n1).drop 9).take 10)) S := by
      generalize (oddL n0 n1).take 9 = Q
      simp
      rfl
    exact asg_ok6 (bin_dd6 (t1 := .own ((oddL n0 n1).take 9)) rfl rfl e rfl a1)
  refine runs_seq (ρ1 := [some (.val (.int (k : Int))), some (.val (.list N)), some (.own ((oddL n0 n1).take 21))]) (S1 := S) ?_ ?_
  · have e : (cList (aCons (cTup (aCons (cC (.str "q")) (aCons (cC (.str "0")) aNil))) (aCons (cTup (aCons (cC (.str "  ")) (aCons (cC (.int 0)) aNil))) aNil))) [some (.val (.int (k : Int))), some (.val (.list N)), some (.own ((oddL n0 n1).take 19))] S = .ok (.own (((oddL n0 n1).drop 19).take 2)) S := by
      generalize (oddL n0 n1).take 19 = Q
      simp
      rfl
    exact asg_ok6 (bin_dd6 (t1 := .own ((oddL n0 n1).take 19)) rfl rfl e rfl a2)
  · have e : (cBin gAdd (cVarU 2) (cList (aCons (cTup (aCons (cBin gIx (cVarU 1) (cC (.int 0))) (aCons (cC (.int 0)) aNil))) (aCons (cTup (aCons (cBin gIx (cVarU 1) (cUn gNeg (cC (.int 1)))) (aCons (cC (.int 1)) aNil))) (aCons (cTup (aCons (cC (.str " ")) (aCons (cC (.bool false)) aNil))) (aCons (cTup (aCons (cList (aCons (cC (.str "q")) aNil)) (aCons (cC (.int 0)) aNil))) (aCons (cC .none) aNil))))))) [some (.val (.int (k : Int))), some (.val (.list N)), some (.own ((oddL n0 n1).take 21))] S = .ok (.own (oddL n0 n1)) S := by
      refine bin_dd6 (t1 := .own ((oddL n0 n1).take 21)) (t2 := .own ((oddL n0 n1).drop 21)) rfl rfl ?_ rfl a3
      generalize (oddL n0 n1).take 21 = Q
      simp [h0, h1, -g_ix_l]
      rfl
    have r : (cBin gIx (cBin gAdd (cVarU 2) (cList (aCons (cTup (aCons (cBin gIx (cVarU 1) (cC (.int 0))) (aCons (cC (.int 0)) aNil))) (aCons (cTup (aCons (cBin gIx (cVarU 1) (cUn gNeg (cC (.int 1)))) (aCons (cC (.int 1)) aNil))) (aCons (cTup (aCons (cC (.str " ")) (aCons (cC (.bool false)) aNil))) (aCons (cTup (aCons (cList (aCons (cC (.str "q")) aNil)) (aCons (cC (.int 0)) aNil))) (aCons (cC .none) aNil))))))) (cVarU 0)) [some (.val (.int (k : Int))), some (.val (.list N)), some (.own ((oddL n0 n1).take 21))] S = .ok (.val ((oddL n0 n1)[k]'(by omega))) S := bin_dd6 e rfl (t2 := .val (.int (k : Int))) rfl rfl at1
    show (match (cBin gIx _ _) _ S with | .ok t S1 => Fl.rt t S1 | .exc e S1 => .ex e _ S1 | .bad => .bad) = _
    rw [r]
end
end BV
/-! k06: a case spoilt. -/
namespace BV
open PySem L2
section
variable {S : Sto} {units : List Int} {rows : List (List CellM)} {w h n m : Nat}
theorem tup_lc {ρ : En} (h8 : ∀ d : D, ∃ ρ1, bName 8 d ρ = some ρ1 ∧ cB1 gTuple (uCons (cVarU 8) uNil) ρ1 S = (match d with | .list xs => .ok (.val (.tuple xs)) S | _ => cB1 gTuple (uCons (cVarU 8) uNil) ρ1 S)) : ∀ X : List (List D), lcM (bName 8) bYes (cB1 gTuple (uCons (cVarU 8) uNil)) ρ (X.map PyData.list) S = .ok (X.map PyData.tuple) S := fun X =>
  lcM_map2 PyData.list PyData.tuple X fun x _ => by
    obtain ⟨ρ1, e1, e2⟩ := h8 (.list x)
    exact ⟨ρ1, .val (.tuple x), e1, e2, rfl⟩
/-- what is left when the rows and the units are as they will be -/
def tailS : SS := (sFz 6 (sSeq (sAsg 9 (cList (aCons (cB1 gTuple (uCons (cVarU 5) uNil)) (aCons (cB1 gTuple (uCons (cLc (cSeq (cVarU 6)) (bName 8) bYes (cB1 gTuple (uCons (cVarU 8) uNil)) [8]) uNil)) aNil))))
    (sSeq (sIf (cB (cBin (gEq false) (cVarU 1) (cC (.int 9)))) (sSeq (sAsg 10 (cB1 gTuple (uCons (cBin gAdd (cLc (cSeq (cSl (cVarU 6) cNoPart (cPart (cUn gNeg (cC (.int 1)))))) (bName 8) bYes (cB1 gTuple (uCons (cVarU 8) uNil)) [8]) (cList (aCons (cBin gIx (cVarU 6) (cUn gNeg (cC (.int 1)))) aNil))) uNil)))
    (sSet 9 (cC (.int 1)) (cBin gIx (cList (aCons (cVar 10) (aCons (cVar 6) (aCons (cTup aNil) (aCons (cBin gAdd (cBin gIx (cVarU 9) (cC (.int 1))) (cSl (cBin gIx (cVarU 9) (cC (.int 1))) cNoPart (cPart (cC (.int 1))))) aNil))))) (cBin gMod (cVarU 4) (cC (.int 4)))))) sSkip)
    (sSeq (sIf (cB (cBin (gEq false) (cVarU 1) (cC (.int 10)))) (sFz 5 (sRet (cBin gIx (cList (aCons (cB1 gTuple (uCons (cSl (cVarU 9) cNoPart (cPart (cC (.int 1)))) uNil)) (aCons (cB1 gList (uCons (cVarU 9) uNil)) (aCons (cB1 gTuple (uCons (cBin gAdd (cVarU 9) (cList (aCons (cTup aNil) aNil))) uNil)) (aCons (cTup (aCons (cVar 5) (aCons (cBin gIx (cVarU 9) (cC (.int 1))) aNil))) (aCons (cUn gRev (cVarU 9)) aNil)))))) (cBin gMod (cVarU 4) (cC (.int 5)))))) sSkip)
    (sRet (cB1 gTuple (uCons (cVarU 9) uNil)))))))
theorem tail_run {cd : D} {way r c : Int} {k : Nat} {U : List D} {X : List (List D)} {t6 y7 y8 : Option T} {t : T} (h6 : t6 = some t) (ha : asD t = some (.list (X.map PyData.list))) (hU : ∀ d ∈ U, noDict d = true) (hX : ∀ x ∈ X, ∀ d ∈ x, noDict d = true) (hXn : X ≠ []) (hXl : X.length ≤ 1000) :
    ∃ d, tailS [some (.val cd), some (.val (.int way)), some (.val (.int r)), some (.val (.int c)), some (.val (.int (k : Int))), some (.own U), t6, y7, y8, none, none, none] S = .rt (.val d) S ∧ noDict d = true := by
  subst h6
  have hXT : ∀ d ∈ X.map PyData.tuple, noDict d = true := fun d hd => by
    obtain ⟨x, hx, rfl⟩ := List.mem_map.mp hd
    exact nd_t (hX x hx)
  have hXL : ∀ d ∈ X.map PyData.list, noDict d = true := fun d hd => by
    obtain ⟨x, hx, rfl⟩ := List.mem_map.mp hd
    exact nd_l (hX x hx)
  have lc := tup_lc (S := S) (ρ := [some (.val cd), some (.val (.int way)), some (.val (.int r)), some (.val (.int c)), some (.val (.int (k : Int))), some (.own U), some (.val (.list (X.map PyData.list))), y7, none, none, none, none]) (fun d => ⟨_, rfl, by cases d <;> simp⟩) X
  unfold tailS
  rw [e_fz]
  have efz : fz 6 [some (.val cd), some (.val (.int way)), some (.val (.int r)), some (.val (.int c)), some (.val (.int (k : Int))), some (.own U), some t, y7, y8, none, none, none] = some [some (.val cd), some (.val (.int way)), some (.val (.int r)), some (.val (.int c)), some (.val (.int (k : Int))), some (.own U), some (.val (.list (X.map PyData.list))), y7, y8, none, none, none] := by
    rw [e_fzi]
    show (asD t).map _ = _
    rw [ha]
    rfl
  rw [efz]
  simp only
  have s1 : sAsg 9 (cList (aCons (cB1 gTuple (uCons (cVarU 5) uNil)) (aCons (cB1 gTuple (uCons (cLc (cSeq (cVarU 6)) (bName 8) bYes (cB1 gTuple (uCons (cVarU 8) uNil)) [8]) uNil)) aNil))) [some (.val cd), some (.val (.int way)), some (.val (.int r)), some (.val (.int c)), some (.val (.int (k : Int))), some (.own U), some (.val (.list (X.map PyData.list))), y7, y8, none, none, none] S = .nx [some (.val cd), some (.val (.int way)), some (.val (.int r)), some (.val (.int c)), some (.val (.int (k : Int))), some (.own U), some (.val (.list (X.map PyData.list))), y7, y8, some (.own [.tuple U, .tuple (X.map PyData.tuple)]), none, none] S := by
    generalize X.map PyData.tuple = XT at *
    generalize X.map PyData.list = XL at *
    simp [wipeE, lc]
  by_cases h9 : way = 9
  · subst h9
    have hdrop : (cutD (X.map PyData.list) none (some (-1))) = X.dropLast.map PyData.list := by
      unfold cutD
      rw [HT.sIx_none, List.drop_zero, Nat.sub_zero, List.map_dropLast, List.dropLast_eq_take]
      congr 1
      unfold HT.sIx
      simp
      omega
    have lc2 := tup_lc (S := S) (ρ := [some (.val cd), some (.val (.int 9)), some (.val (.int r)), some (.val (.int c)), some (.val (.int (k : Int))), some (.own U), some (.val (.list (X.map PyData.list))), y7, none, some (.own [.tuple U, .tuple (X.map PyData.tuple)]), none, none]) (fun d => ⟨_, rfl, by cases d <;> simp⟩) X.dropLast
    have lastX : gIx (.list (X.map PyData.list)) (.int (-1)) = some (.val (.list (X.getLast hXn))) := by
      rw [g_ix_l]
      have e : X.map PyData.list = X.dropLast.map PyData.list ++ [.list (X.getLast hXn)] := by
        conv => lhs; rw [← List.dropLast_concat_getLast hXn, List.map_append]
        rfl
      rw [e]
      show (atI (X.dropLast.map PyData.list ++ [PyData.list (X.getLast hXn)]) (-1)).map T.val = _
      unfold L2.atI
      have hl : (X.dropLast.map PyData.list ++ [PyData.list (X.getLast hXn)]).length = X.dropLast.length + 1 := by simp
      have : ixN (X.dropLast.map PyData.list ++ [PyData.list (X.getLast hXn)]).length (-1) = some X.dropLast.length := by
        rw [hl]
        unfold L2.ixN
        simp
        omega
      rw [this]
      show (((X.dropLast.map PyData.list ++ [PyData.list (X.getLast hXn)])[X.dropLast.length]?)).map T.val = _
      rw [List.getElem?_append_right (by simp)]
      simp
    have dl : X.dropLast.length ≤ 1000 := by rw [List.length_dropLast]; omega
    have ad : gAdd (.list (X.dropLast.map PyData.tuple)) (.list [.list (X.getLast hXn)]) = some (.own (X.dropLast.map PyData.tuple ++ [.list (X.getLast hXn)])) := g_add_l (le_line (by simp; omega))
    have hHalf : ∀ d ∈ X.dropLast.map PyData.tuple ++ [PyData.list (X.getLast hXn)], noDict d = true := fun d hd => by
      rcases List.mem_append.mp hd with z | z
      · obtain ⟨x, hx, rfl⟩ := List.mem_map.mp z
        exact nd_t (hX x (List.dropLast_subset _ hx))
      · simp at z
        rw [z]
        exact nd_l (hX _ (List.getLast_mem hXn))
    have ct : cutD (X.map PyData.tuple) none (some 1) = (X.map PyData.tuple).take 1 := by
      rw [show (1 : Int) = ((1 : Nat) : Int) from rfl, cutD_to]
      congr 1
      rw [List.length_map]
      have : 1 ≤ X.length := List.length_pos_iff.mpr hXn
      omega
    have ad2 : gAdd (.tuple (X.map PyData.tuple)) (.tuple ((X.map PyData.tuple).take 1)) = some (.val (.tuple (X.map PyData.tuple ++ (X.map PyData.tuple).take 1))) := by
      exact g_add_t (le_line (by simp; omega))
    have gs2 : gSl (.tuple (X.map PyData.tuple)) none (some 1) = some (.val (.tuple ((X.map PyData.tuple).take 1))) := by
      show some (T.val (.tuple (cutD (X.map PyData.tuple) none (some 1)))) = _
      rw [ct]
    have gs1 : gSl (.list (X.map PyData.list)) none (some (-1)) = some (.own (X.dropLast.map PyData.list)) := by
      rw [g_sl_l, hdrop]
    have hPl : ∀ d ∈ X.map PyData.tuple ++ (X.map PyData.tuple).take 1, noDict d = true := fun d hd => by
      rcases List.mem_append.mp hd with z | z
      · exact hXT d z
      · exact hXT d (List.mem_of_mem_take z)
    obtain ⟨HD, hHD⟩ : ∃ HD, HD = X.dropLast.map PyData.tuple ++ [PyData.list (X.getLast hXn)] := ⟨_, rfl⟩
    rw [← hHD] at ad hHalf
    have g4 : ∃ d', gIx (.list [.tuple HD, .list (X.map PyData.list), .tuple [], .tuple (X.map PyData.tuple ++ (X.map PyData.tuple).take 1)]) (.int ((k : Int) % 4)) = some (.val d') ∧ noDict d' = true := by
      have : (k : Int) % 4 = 0 ∨ (k : Int) % 4 = 1 ∨ (k : Int) % 4 = 2 ∨ (k : Int) % 4 = 3 := by omega
      rcases this with z | z | z | z <;> rw [z]
      · exact ⟨.tuple HD, rfl, nd_t hHalf⟩
      · exact ⟨.list (X.map PyData.list), rfl, nd_l hXL⟩
      · exact ⟨.tuple [], rfl, rfl⟩
      · exact ⟨.tuple (X.map PyData.tuple ++ (X.map PyData.tuple).take 1), rfl, nd_t hPl⟩
    obtain ⟨d', hd', nd'⟩ := g4
    have md : gMod (.int (k : Int)) (.int 4) = some (.val (.int ((k : Int) % 4))) := g_mod_i (by decide)
    have i91 : gIx (.list [.tuple U, .tuple (X.map PyData.tuple)]) (.int 1) = some (.val (.tuple (X.map PyData.tuple))) := rfl
    refine ⟨.tuple [.tuple U, d'], runs_seq s1 (runs_seq (ρ1 := [some (.val cd), some (.val (.int 9)), some (.val (.int r)), some (.val (.int c)), some (.val (.int (k : Int))), some (.own U), some (.val (.list (X.map PyData.list))), y7, y8, some (.own [.tuple U, d']), some (.val (.tuple HD)), none]) (S1 := S) (if_t (S1 := S) (by simp) (runs_seq (ρ1 := [some (.val cd), some (.val (.int 9)), some (.val (.int r)), some (.val (.int c)), some (.val (.int (k : Int))), some (.own U), some (.val (.list (X.map PyData.list))), y7, y8, some (.own [.tuple U, .tuple (X.map PyData.tuple)]), some (.val (.tuple HD)), none]) (S1 := S) ?_ ?_)) (runs_seq (if_f (S1 := S) (by simp) rfl) ?_)), nd_t fun d hd => ?_⟩
    · generalize X.map PyData.tuple ++ (X.map PyData.tuple).take 1 = XP at *
      generalize (X.map PyData.tuple).take 1 = XQ at *
      generalize X.dropLast.map PyData.tuple = DT at *
      generalize X.dropLast.map PyData.list = DL at *
      generalize X.map PyData.tuple = XT at *
      generalize X.map PyData.list = XL at *
      simp [gs1, wipeE, lc2, lastX, ad, -g_sl_l, -g_ix_l]
    · have ix : ixN ([PyData.tuple U, .tuple (X.map PyData.tuple)]).length 1 = some 1 := rfl
      generalize X.map PyData.tuple ++ (X.map PyData.tuple).take 1 = XP at *
      generalize (X.map PyData.tuple).take 1 = XQ at *
      generalize X.map PyData.tuple = XT at *
      generalize X.map PyData.list = XL at *
      simp [md, i91, gs2, ad2, hd', -g_ix_l]
      rfl
    · simp
    · simp at hd
      rcases hd with z | z <;> rw [z]
      · exact nd_t hU
      · exact nd'
  · by_cases h10 : way = 10
    · subst h10
      have md : gMod (.int (k : Int)) (.int 5) = some (.val (.int ((k : Int) % 5))) := g_mod_i (by decide)
      have i91 : gIx (.list [.tuple U, .tuple (X.map PyData.tuple)]) (.int 1) = some (.val (.tuple (X.map PyData.tuple))) := rfl
      have gs : gSl (.list [.tuple U, .tuple (X.map PyData.tuple)]) none (some 1) = some (.own [.tuple U]) := rfl
      have ad : gAdd (.list [.tuple U, .tuple (X.map PyData.tuple)]) (.list [.tuple []]) = some (.own [.tuple U, .tuple (X.map PyData.tuple), .tuple []]) := g_add_l (le_line (by simp))
      have nU := nd_t hU
      have nX := nd_t hXT
      have g5 : ∃ d', gIx (.list [.tuple [.tuple U], .list [.tuple U, .tuple (X.map PyData.tuple)], .tuple [.tuple U, .tuple (X.map PyData.tuple), .tuple []], .tuple [.list U, .tuple (X.map PyData.tuple)], .list [.tuple (X.map PyData.tuple), .tuple U]]) (.int ((k : Int) % 5)) = some (.val d') ∧ noDict d' = true := by
        have nUl := nd_l hU
        have : (k : Int) % 5 = 0 ∨ (k : Int) % 5 = 1 ∨ (k : Int) % 5 = 2 ∨ (k : Int) % 5 = 3 ∨ (k : Int) % 5 = 4 := by omega
        rcases this with z | z | z | z | z <;> rw [z]
        · exact ⟨_, rfl, nd_t fun d hd => by simp at hd; rw [hd]; exact nU⟩
        · exact ⟨_, rfl, nd_l fun d hd => by simp at hd; rcases hd with q | q <;> rw [q] <;> assumption⟩
        · exact ⟨_, rfl, nd_t fun d hd => by simp at hd; rcases hd with q | q | q <;> rw [q] <;> first | assumption | rfl⟩
        · exact ⟨_, rfl, nd_t fun d hd => by simp at hd; rcases hd with q | q <;> rw [q] <;> assumption⟩
        · exact ⟨_, rfl, nd_l fun d hd => by simp at hd; rcases hd with q | q <;> rw [q] <;> assumption⟩
      obtain ⟨d', hd', nd'⟩ := g5
      refine ⟨d', runs_seq s1 (runs_seq (if_f (S1 := S) (by simp) rfl) (runs_rt (if_t (S1 := S) (by simp) ?_))), nd'⟩
      rw [e_fz]
      have efz5 : fz 5 [some (.val cd), some (.val (.int 10)), some (.val (.int r)), some (.val (.int c)), some (.val (.int (k : Int))), some (.own U), some (.val (.list (X.map PyData.list))), y7, y8, some (.own [.tuple U, .tuple (X.map PyData.tuple)]), none, none] = some [some (.val cd), some (.val (.int 10)), some (.val (.int r)), some (.val (.int c)), some (.val (.int (k : Int))), some (.val (.list U)), some (.val (.list (X.map PyData.list))), y7, y8, some (.own [.tuple U, .tuple (X.map PyData.tuple)]), none, none] := rfl
      rw [efz5]
      generalize X.map PyData.tuple = XT at *
      generalize X.map PyData.list = XL at *
      simp [gs, ad, i91, md, hd', -g_sl_l, -g_ix_l]
    · refine ⟨.tuple [.tuple U, .tuple (X.map PyData.tuple)], runs_seq s1 (runs_seq (if_f (S1 := S) (by simp [h9]) rfl) (runs_seq (if_f (S1 := S) (by simp [h10]) rfl) (by simp))), nd_t fun d hd => ?_⟩
      simp at hd
      rcases hd with z | z <;> rw [z]
      · exact nd_t hU
      · exact nd_t hXT
end
end BV
/-! k06: a drawn case spoilt in any way. -/
namespace BV
open PySem L2
section
variable {S : Sto} {units : List Int} {rows : List (List CellM)} {w h n m : Nat}
abbrev cellsX (rows : List (List CellM)) : List (List D) := rows.map fun r => r.map cellD
theorem rows_lc2 {ρ : En} (h8 : ∀ d : D, ∃ ρ1, bName 8 d ρ = some ρ1 ∧ cB1 gList (uCons (cVarU 8) uNil) ρ1 S = (match d with | .tuple xs => .ok (.own xs) S | _ => cB1 gList (uCons (cVarU 8) uNil) ρ1 S)) : ∀ rs : List (List CellM), lcM2 (bName 8) bYes (cB1 gList (uCons (cVarU 8) uNil)) ρ (rs.map rowD) S = .ok (cellsX rs) S
  | [] => rfl
  | r :: rs => by
    have ih := rows_lc2 h8 rs
    obtain ⟨ρ1, e1, e2⟩ := h8 (rowD r)
    have e2' : cB1 gList (uCons (cVarU 8) uNil) ρ1 S = .ok (.own (r.map cellD)) S := e2
    rw [List.map_cons]
    unfold lcM2
    rw [e1]
    simp only [e_bYes, e2', ih, e_l_ok]
    rfl
theorem cell_names {ρ : En} (h11 : ∀ d : D, ∃ ρ1, bName 11 d ρ = some ρ1 ∧ ρ1[11]? = some (some (.val d))) : ∀ r : List CellM, lcM (bName 11) (cB (cUn gNotN (cVarU 11))) (cBin gIx (cVarU 11) (cC (.int 0))) ρ (r.map cellD) S = .ok ((r.filterMap nameC).map PyData.str) S
  | [] => rfl
  | x :: r => by
    have ih := cell_names h11 r
    obtain ⟨ρ1, e1, e2⟩ := h11 (cellD x)
    rw [List.map_cons]
    unfold lcM
    rw [e1]
    cases x with
    | none =>
      have e2' : ρ1[11]? = some (some (.val .none)) := e2
      have et : (cB (cUn gNotN (cVarU 11))) ρ1 S = .ok false S := by simp [e2']
      simp only [et, ih]
      rfl
    | some p =>
      obtain ⟨x, c⟩ := p
      have e2' : ρ1[11]? = some (some (.val (.tuple [.str x, .int c]))) := e2
      have et : (cB (cUn gNotN (cVarU 11))) ρ1 S = .ok true S := by simp [e2']
      have ee : (cBin gIx (cVarU 11) (cC (.int 0))) ρ1 S = .ok (.val (.str x)) S := by simp [e2']
      have ea : asD (T.val (.str x)) = some (.str x) := rfl
      simp only [et, ee, ea, ih, e_l_ok]
      rfl
def stS (cd : D) (way r c k : Int) (U : List D) (t6 : Option T) (N : List Str) (y8 : Option T) : En := [some (.val cd), some (.val (.int way)), some (.val (.int r)), some (.val (.int c)), some (.val (.int k)), some (.own U), t6, some (.own (N.map PyData.str)), y8, none, none, none]
theorem names_run6 {cd : D} {way r c k : Int} {U : List D} {t6 : Option T} : ∀ (rs : List (List CellM)) (N : List Str) (y8 : Option T), N.length + (rs.flatten.filterMap nameC).length ≤ 10000 →
    ∃ z8, forL (bName 8) b1_law_spoilt (rs.map rowD) (stS cd way r c k U t6 N y8) S = .nx (stS cd way r c k U t6 (N ++ rs.flatten.filterMap nameC) z8) S
  | [], N, y8, _ => ⟨y8, by simp [forL]⟩
  | q :: rs, N, y8, hl => by
    have el : (q :: rs).flatten.filterMap nameC = q.filterMap nameC ++ rs.flatten.filterMap nameC := by rw [List.flatten_cons, List.filterMap_append]
    rw [el, List.length_append] at hl
    obtain ⟨z8, e⟩ := names_run6 (cd := cd) (way := way) (r := r) (c := c) (k := k) (U := U) (t6 := t6) rs (N ++ q.filterMap nameC) (some (.val (rowD q))) (by rw [List.length_append]; omega)
    refine ⟨z8, ?_⟩
    have e0 : bName 8 (rowD q) (stS cd way r c k U t6 N y8) = some (stS cd way r c k U t6 N (some (.val (rowD q)))) := rfl
    have cn := cell_names (S := S) (ρ := [some (.val cd), some (.val (.int way)), some (.val (.int r)), some (.val (.int c)), some (.val (.int k)), some (.own U), t6, some (.own (N.map PyData.str)), some (.val (rowD q)), none, none, none]) (fun d => ⟨_, rfl, rfl⟩) q
    have lc : (cLc (cSeq (cVarU 8)) (bName 11) (cB (cUn gNotN (cVarU 11))) (cBin gIx (cVarU 11) (cC (.int 0))) [11]) (stS cd way r c k U t6 N (some (.val (rowD q)))) S = .ok (.own ((q.filterMap nameC).map PyData.str)) S := by
      unfold stS
      generalize (q.filterMap nameC).map PyData.str = Q at *
      generalize N.map PyData.str = NN at *
      unfold rowD at cn ⊢
      generalize q.map cellD = QC at *
      simp at cn ⊢
      simp [wipeE, cn]
    have ad : gAdd (.list (N.map PyData.str)) (.list ((q.filterMap nameC).map PyData.str)) = some (.own ((N ++ q.filterMap nameC).map PyData.str)) := by
      rw [g_add_l (le_line (by simp only [List.length_map]; omega)), List.map_append]
    have v7 : (cVarU 7) (stS cd way r c k U t6 N (some (.val (rowD q)))) S = .ok (.own (N.map PyData.str)) S := by unfold stS; simp
    have body : b1_law_spoilt (stS cd way r c k U t6 N (some (.val (rowD q)))) S = .nx (stS cd way r c k U t6 (N ++ q.filterMap nameC) (some (.val (rowD q)))) S := by
      unfold b1_law_spoilt
      rw [asg_ok6 (bin_dd6 v7 rfl lc rfl ad)]
      rfl
    rw [List.map_cons, forL_cons e0, body, el, ← List.append_assoc]
    exact e
theorem seq_ix6 {k len : Nat} (h : k < len) : seqIndex? (k : Int) len = some k := by
  unfold seqIndex?
  have h1 : ¬ ((k : Int) < 0) := by omega
  have h2 : ((k : Int) < (len : Int)) := by omega
  simp [h1, h2]
theorem ixN6 {k len : Nat} (h : k < len) (hl : len < 1000000) : ixN len (k : Int) = some k := by
  rw [ixN_pos (by omega) (by omega)]
  simp
theorem nd_cells : ∀ x ∈ cellsX rows, ∀ d ∈ x, noDict d = true := fun x hx d hd => by
  obtain ⟨r, _, rfl⟩ := List.mem_map.mp hx
  obtain ⟨c, _, rfl⟩ := List.mem_map.mp hd
  exact cellD_nd c
theorem nd_set {X : List (List D)} {r : Nat} {x' : List D} (hX : ∀ x ∈ X, ∀ d ∈ x, noDict d = true) (hx : ∀ d ∈ x', noDict d = true) : ∀ x ∈ X.set r x', ∀ d ∈ x, noDict d = true := fun x hm d hd => by
  rcases List.mem_or_eq_of_mem_set hm with z | z
  · exact hX x z d hd
  · rw [z] at hd
    exact hx d hd
theorem map_erase6 {α β : Type} (f : α → β) : ∀ (l : List α) (i : Nat), (l.eraseIdx i).map f = (l.map f).eraseIdx i
  | [], _ => rfl
  | _ :: _, 0 => rfl
  | a :: l, i + 1 => by
    show f a :: (l.eraseIdx i).map f = f a :: (l.map f).eraseIdx i
    rw [map_erase6 f l i]
theorem spoilt_spec (k : CaseOk w h units rows) (hw : w ≤ 15) (hh : h ≤ 15) {way : Int} (hw0 : 0 ≤ way) (hw1 : way < 15) {r c kk : Nat} (hr : r < h) (hc : c < w) (hk : kk < 26) :
    ∃ d, sem_law_spoilt [.val (caseD units rows), .val (.int way), .val (.int (r : Int)), .val (.int (c : Int)), .val (.int (kk : Int))] S = .ok (.val d) S ∧ noDict d = true := by
  have hX0 := nd_cells (rows := rows)
  have hXl : (cellsX rows).length = h := by rw [List.length_map, k.hr]
  have hXn : cellsX rows ≠ [] := fun z => by have := k.h2; rw [z] at hXl; simp at hXl; omega
  have hU0 : ∀ d ∈ units.map PyData.int, noDict d = true := ints_nd units
  have hUl : (units.map PyData.int).length = h := by rw [List.length_map, k.hu]
  obtain ⟨row, hrow, hrl⟩ : ∃ row, (cellsX rows)[r]? = some row ∧ row.length = w := by
    refine ⟨(rows[r]'(by rw [k.hr]; exact hr)).map cellD, ?_, ?_⟩
    · rw [List.getElem?_map, List.getElem?_eq_getElem (by rw [k.hr]; exact hr)]
      rfl
    · rw [List.length_map]
      exact k.hw _ (List.getElem_mem _)
  have hrn : ∀ d ∈ row, noDict d = true := hX0 row (List.mem_of_getElem? hrow)
  have few := k.few
  obtain ⟨z8, en⟩ := names_run6 (S := S) (cd := caseD units rows) (way := way) (r := (r : Int)) (c := (c : Int)) (k := (kk : Int)) (U := units.map PyData.int) (t6 := some (.own2 (cellsX rows))) rows [] none (by
    show 0 + (namesOf rows).length ≤ 10000
    omega)
  rw [List.nil_append] at en
  have hNN : rows.flatten.filterMap nameC = namesOf rows := rfl
  rw [hNN] at en
  have hNn : namesOf rows ≠ [] := fun z => by have := k.bl; rw [z] at this; cases this
  obtain ⟨n0, hn0⟩ : ∃ n0, gIx (.list ((namesOf rows).map PyData.str)) (.int 0) = some (.val (.str n0)) := by
    cases e : namesOf rows with
    | nil => exact absurd e hNn
    | cons x xs => exact ⟨x, by rw [g_ix_l, show (0 : Int) = ((0 : Nat) : Int) from rfl, atI_nat (v := .str x) rfl]; rfl⟩
  obtain ⟨n1, hn1⟩ : ∃ n1, gIx (.list ((namesOf rows).map PyData.str)) (.int (-1)) = some (.val (.str n1)) := by
    refine ⟨(namesOf rows).getLast hNn, ?_⟩
    rw [g_ix_l]
    have e : (namesOf rows).map PyData.str = (namesOf rows).dropLast.map PyData.str ++ [.str ((namesOf rows).getLast hNn)] := by
      conv => lhs; rw [← List.dropLast_concat_getLast hNn, List.map_append]
      rfl
    rw [e]
    unfold L2.atI
    have hl : ((namesOf rows).dropLast.map PyData.str ++ [PyData.str ((namesOf rows).getLast hNn)]).length = (namesOf rows).dropLast.length + 1 := by simp
    have : ixN ((namesOf rows).dropLast.map PyData.str ++ [PyData.str ((namesOf rows).getLast hNn)]).length (-1) = some (namesOf rows).dropLast.length := by
      rw [hl]
      unfold L2.ixN
      simp
      omega
    rw [this]
    show ((((namesOf rows).dropLast.map PyData.str ++ [PyData.str ((namesOf rows).getLast hNn)])[(namesOf rows).dropLast.length]?)).map T.val = _
    rw [List.getElem?_append_right (by simp)]
    simp
  have l2 := rows_lc2 (S := S) (ρ := [some (.val (caseD units rows)), some (.val (.int way)), some (.val (.int (r : Int))), some (.val (.int (c : Int))), some (.val (.int (kk : Int))), some (.own (units.map PyData.int)), none, none, none, none, none, none]) (fun d => ⟨_, rfl, by cases d <;> simp⟩) rows
  have head : ∀ res : Fl, (sSeq (sIf (cB (cBin gLt (cVarU 1) (cC (.int 4)))) (sFz 7 (sSet2 6 (cVarU 2) (cVarU 3) (cCall sem_law_odd_cell (aCons (cVar 4) (aCons (cVar 7) aNil))))) sSkip)
    (sSeq (sIf (cB (cBin (gEq false) (cVarU 1) (cC (.int 4)))) (sSet 5 (cVarU 2) (cBin gIx (cList (aCons (cC (.int 0)) (aCons (cC (.int 31)) (aCons (cUn gNeg (cC (.int 1))) (aCons (cC (.bool true)) (aCons (cC .none) (aCons (cC (.str "1")) (aCons (cTup (aCons (cC (.int 1)) aNil)) (aCons (cList (aCons (cC (.int 1)) aNil)) (aCons (cC (.int 1)) (aCons (cC (.int 30)) aNil))))))))))) (cBin gMod (cVarU 4) (cC (.int 10))))) sSkip)
    (sSeq (sIf (cB (cBin (gEq false) (cVarU 1) (cC (.int 5)))) (sLM2 6 (cVarU 2) mPopAt (aCons (cVar 3) aNil)) sSkip)
    (sSeq (sIf (cB (cBin (gEq false) (cVarU 1) (cC (.int 6)))) (sLM2 6 (cVarU 2) mInsert (aCons (cVar 3) (aCons (cC .none) aNil))) sSkip)
    (sSeq (sIf (cB (cBin (gEq false) (cVarU 1) (cC (.int 7)))) (sHz 6 (sLM 6 mPopAt (aCons (cVar 2) aNil) kDrop)) sSkip)
    (sSeq (sIf (cB (cBin (gEq false) (cVarU 1) (cC (.int 8)))) (sLM 5 mPopAt (aCons (cVar 2) aNil) kDrop) sSkip)
    tailS)))))) (stS (caseD units rows) way r c kk (units.map PyData.int) (some (.own2 (cellsX rows))) (namesOf rows) z8) S = res → g_law_spoilt [some (.val (caseD units rows)), some (.val (.int way)), some (.val (.int (r : Int))), some (.val (.int (c : Int))), some (.val (.int (kk : Int))), none, none, none, none, none, none, none] S = res := fun res hres => by
    unfold g_law_spoilt
    refine runs_seq (ρ1 := [some (.val (caseD units rows)), some (.val (.int way)), some (.val (.int (r : Int))), some (.val (.int (c : Int))), some (.val (.int (kk : Int))), some (.own (units.map PyData.int)), none, none, none, none, none, none]) (S1 := S) ?_ ?_
    · unfold caseD
      generalize rows.map rowD = RR at *
      generalize units.map PyData.int = UU at *
      simp
    refine runs_seq (ρ1 := [some (.val (caseD units rows)), some (.val (.int way)), some (.val (.int (r : Int))), some (.val (.int (c : Int))), some (.val (.int (kk : Int))), some (.own (units.map PyData.int)), some (.own2 (cellsX rows)), none, none, none, none, none]) (S1 := S) ?_ ?_
    · refine asg_ok6 ?_
      unfold cLc2
      have e1 : (cSeq (cBin gIx (cVarU 0) (cC (.int 1)))) [some (.val (caseD units rows)), some (.val (.int way)), some (.val (.int (r : Int))), some (.val (.int (c : Int))), some (.val (.int (kk : Int))), some (.own (units.map PyData.int)), none, none, none, none, none, none] S = .ok (rows.map rowD) S := by
        unfold caseD
        generalize rows.map rowD = RR at *
        generalize units.map PyData.int = UU at *
        simp
      rw [e1, e_l_ok]
      show R.l (lcM2 (bName 8) bYes (cB1 gList (uCons (cVarU 8) uNil)) [some (.val (caseD units rows)), some (.val (.int way)), some (.val (.int (r : Int))), some (.val (.int (c : Int))), some (.val (.int (kk : Int))), some (.own (units.map PyData.int)), none, none, none, none, none, none] (rows.map rowD) S) _ = _
      rw [l2]
      rfl
    refine runs_seq (ρ1 := stS (caseD units rows) way r c kk (units.map PyData.int) (some (.own2 (cellsX rows))) [] none) (S1 := S) ?_ ?_
    · unfold stS
      simp
    refine runs_seq (ρ1 := stS (caseD units rows) way r c kk (units.map PyData.int) (some (.own2 (cellsX rows))) (namesOf rows) z8) (S1 := S) ?_ hres
    rw [← en]
    have e1 : (cSeq (cBin gIx (cVarU 0) (cC (.int 1)))) (stS (caseD units rows) way r c kk (units.map PyData.int) (some (.own2 (cellsX rows))) [] none) S = .ok (rows.map rowD) S := by
      unfold stS caseD
      generalize rows.map rowD = RR at *
      generalize units.map PyData.int = UU at *
      simp
    unfold sFor
    rw [e1]
  have rnat := ixN6 (k := r) (len := (cellsX rows).length) (by omega) (by omega)
  have rnatU := ixN6 (k := r) (len := (units.map PyData.int).length) (by omega) (by omega)
  have cnat := ixN6 (k := c) (len := row.length) (by omega) (by omega)
  have smr : smallI (r : Int) = true := smallI_of (by omega) (by omega)
  have smc : smallI (c : Int) = true := smallI_of (by omega) (by omega)
  unfold sem_law_spoilt
  generalize caseD units rows = CD at *
  generalize hN : namesOf rows = NS at *
  generalize hUU : units.map PyData.int = UU at *
  generalize hXX : cellsX rows = XX at *
  by_cases w4 : way < 4
  · obtain ⟨d, ho, hnd, _⟩ := odd_spec (S := S) hn0 hn1 hk
    obtain ⟨D', ht, hD'⟩ := tail_run (S := S) (cd := CD) (way := way) (r := (r : Int)) (c := (c : Int)) (k := kk) (U := UU) (X := XX.set r (row.set c d)) (t6 := some (.own2 (XX.set r (row.set c d)))) (y7 := some (.val (.list (NS.map PyData.str)))) (y8 := z8) rfl (by rfl) hU0 (nd_set hX0 fun x hx => by
      rcases List.mem_or_eq_of_mem_set hx with z | z
      · exact hrn x z
      · rw [z]; exact hnd) (by intro z; have := congrArg List.length z; rw [List.length_set, List.length_nil] at this; omega) (by rw [List.length_set]; omega)
    refine ⟨D', fn_rt (head _ ?_), hD'⟩
    have n4 : ¬ way = 4 := by omega
    have n5 : ¬ way = 5 := by omega
    have n6 : ¬ way = 6 := by omega
    have n7 : ¬ way = 7 := by omega
    have n8 : ¬ way = 8 := by omega
    refine runs_seq (ρ1 := [some (.val CD), some (.val (.int way)), some (.val (.int (r : Int))), some (.val (.int (c : Int))), some (.val (.int (kk : Int))), some (.own UU), some (.own2 (XX.set r (row.set c d))), some (.val (.list (NS.map PyData.str))), z8, none, none, none]) (S1 := S) (if_t (S1 := S) (by unfold stS; simp [w4]) ?_) ?_
    · unfold stS
      generalize NS.map PyData.str = NN at *
      simp [ho, rnat, hrow, cnat]
    exact runs_seq (if_f (S1 := S) (by simp [n4]) rfl) (runs_seq (if_f (S1 := S) (by simp [n5]) rfl) (runs_seq (if_f (S1 := S) (by simp [n6]) rfl) (runs_seq (if_f (S1 := S) (by simp [n7]) rfl) (runs_seq (if_f (S1 := S) (by simp [n8]) rfl) ht))))
  have f4 : sIf (cB (cBin gLt (cVarU 1) (cC (.int 4)))) (sFz 7 (sSet2 6 (cVarU 2) (cVarU 3) (cCall sem_law_odd_cell (aCons (cVar 4) (aCons (cVar 7) aNil))))) sSkip (stS CD way r c kk UU (some (.own2 XX)) NS z8) S = .nx (stS CD way r c kk UU (some (.own2 XX)) NS z8) S := if_f (S1 := S) (by unfold stS; simp [w4]) rfl
  have tl : ∀ (U' : List D) (X' : List (List D)) (t6 : T), asD t6 = some (.list (X'.map PyData.list)) → (∀ d ∈ U', noDict d = true) → (∀ x ∈ X', ∀ d ∈ x, noDict d = true) → X' ≠ [] → X'.length ≤ 1000 → ∃ d, tailS (stS CD way r c kk U' (some t6) NS z8) S = .rt (.val d) S ∧ noDict d = true := fun U' X' t6 h1 h2 h3 h4 h5 => tail_run (S := S) (cd := CD) (way := way) (r := (r : Int)) (c := (c : Int)) (k := kk) (U := U') (X := X') (t6 := some t6) (y7 := some (.own (NS.map PyData.str))) (y8 := z8) rfl h1 h2 h3 h4 h5
  by_cases e4 : way = 4
  · obtain ⟨d, hd, hnd⟩ : ∃ d, gIx (.list [.int 0, .int 31, .int (-1), .bool true, .none, .str "1", .tuple [.int 1], .list [.int 1], .int 1, .int 30]) (.int ((kk : Int) % 10)) = some (.val d) ∧ noDict d = true := by
      have hd : noDicts [PyData.int 0, .int 31, .int (-1), .bool true, .none, .str "1", .tuple [.int 1], .list [.int 1], .int 1, .int 30] = true := rfl
      obtain ⟨q, hq, hq10⟩ : ∃ q : Nat, (kk : Int) % 10 = (q : Int) ∧ q < 10 := ⟨kk % 10, by omega, by omega⟩
      have hl : ([PyData.int 0, .int 31, .int (-1), .bool true, .none, .str "1", .tuple [.int 1], .list [.int 1], .int 1, .int 30]).length = 10 := rfl
      generalize [PyData.int 0, .int 31, .int (-1), .bool true, .none, .str "1", .tuple [.int 1], .list [.int 1], .int 1, .int 30] = L at *
      refine ⟨L[q]'(by omega), ?_, nds_all hd _ (List.getElem_mem _)⟩
      rw [hq, g_ix_l, atI_nat (List.getElem?_eq_getElem (by omega))]
      rfl
    have md : gMod (.int (kk : Int)) (.int 10) = some (.val (.int ((kk : Int) % 10))) := g_mod_i (by decide)
    obtain ⟨D', ht, hD'⟩ := tl (UU.set r d) XX (.own2 XX) rfl (fun x hx => by
      rcases List.mem_or_eq_of_mem_set hx with z | z
      · exact hU0 x z
      · rw [z]; exact hnd) hX0 hXn (by omega)
    refine ⟨D', fn_rt (head _ (runs_seq f4 ?_)), hD'⟩
    have n5 : ¬ way = 5 := by omega
    have n6 : ¬ way = 6 := by omega
    have n7 : ¬ way = 7 := by omega
    have n8 : ¬ way = 8 := by omega
    refine runs_seq (ρ1 := stS CD way r c kk (UU.set r d) (some (.own2 XX)) NS z8) (S1 := S) (if_t (S1 := S) (by unfold stS; simp [e4]) ?_) ?_
    · unfold stS
      generalize NS.map PyData.str = NN at *
      simp [md, hd, rnatU, -g_ix_l]
    exact runs_seq (if_f (S1 := S) (by unfold stS; simp [n5]) rfl) (runs_seq (if_f (S1 := S) (by unfold stS; simp [n6]) rfl) (runs_seq (if_f (S1 := S) (by unfold stS; simp [n7]) rfl) (runs_seq (if_f (S1 := S) (by unfold stS; simp [n8]) rfl) ht)))
  have g4 : ∀ (U' : List D) (t6 : T), sIf (cB (cBin (gEq false) (cVarU 1) (cC (.int 4)))) (sSet 5 (cVarU 2) (cBin gIx (cList (aCons (cC (.int 0)) (aCons (cC (.int 31)) (aCons (cUn gNeg (cC (.int 1))) (aCons (cC (.bool true)) (aCons (cC .none) (aCons (cC (.str "1")) (aCons (cTup (aCons (cC (.int 1)) aNil)) (aCons (cList (aCons (cC (.int 1)) aNil)) (aCons (cC (.int 1)) (aCons (cC (.int 30)) aNil))))))))))) (cBin gMod (cVarU 4) (cC (.int 10))))) sSkip (stS CD way r c kk U' (some t6) NS z8) S = .nx (stS CD way r c kk U' (some t6) NS z8) S := fun U' t6 => if_f (S1 := S) (by unfold stS; simp [e4]) rfl
  by_cases e5 : way = 5
  · have pp : mPopAt row [.int (c : Int)] = some (row.eraseIdx c, row[c]'(by omega)) := by
      show (if smallI (c : Int) = true then (seqIndex? (c : Int) row.length).bind fun k => (row[k]?).map fun d => (row.eraseIdx k, d) else none) = _
      rw [if_pos smc, seq_ix6 (by omega), Option.bind_some, List.getElem?_eq_getElem (by omega)]
      rfl
    obtain ⟨D', ht, hD'⟩ := tl UU (XX.set r (row.eraseIdx c)) (.own2 (XX.set r (row.eraseIdx c))) rfl hU0 (nd_set hX0 fun x hx => hrn x (List.mem_of_mem_eraseIdx hx)) (by intro z; have := congrArg List.length z; rw [List.length_set, List.length_nil] at this; omega) (by rw [List.length_set]; omega)
    refine ⟨D', fn_rt (head _ (runs_seq f4 (runs_seq (g4 _ _) ?_))), hD'⟩
    have n6 : ¬ way = 6 := by omega
    have n7 : ¬ way = 7 := by omega
    have n8 : ¬ way = 8 := by omega
    refine runs_seq (ρ1 := stS CD way r c kk UU (some (.own2 (XX.set r (row.eraseIdx c)))) NS z8) (S1 := S) (if_t (S1 := S) (by unfold stS; simp [e5]) ?_) ?_
    · unfold stS
      generalize NS.map PyData.str = NN at *
      simp [rnat, hrow, allD, pp]
    exact runs_seq (if_f (S1 := S) (by unfold stS; simp [n6]) rfl) (runs_seq (if_f (S1 := S) (by unfold stS; simp [n7]) rfl) (runs_seq (if_f (S1 := S) (by unfold stS; simp [n8]) rfl) ht))
  have g5 : ∀ (U' : List D) (t6 : T), sIf (cB (cBin (gEq false) (cVarU 1) (cC (.int 5)))) (sLM2 6 (cVarU 2) mPopAt (aCons (cVar 3) aNil)) sSkip (stS CD way r c kk U' (some t6) NS z8) S = .nx (stS CD way r c kk U' (some t6) NS z8) S := fun U' t6 => if_f (S1 := S) (by unfold stS; simp [e5]) rfl
  by_cases e6 : way = 6
  · have pp : mInsert row [.int (c : Int), .none] = some (row.take c ++ [.none] ++ row.drop c, .none) := by
      show (if row.length < sizeLine ∧ 0 ≤ (c : Int) ∧ smallI (c : Int) = true then some (row.take (c : Int).toNat ++ [.none] ++ row.drop (c : Int).toNat, PyData.none) else none) = _
      rw [if_pos ⟨by rw [sizeLine_eq]; omega, by omega, smc⟩, Int.toNat_natCast]
    obtain ⟨D', ht, hD'⟩ := tl UU (XX.set r (row.take c ++ [.none] ++ row.drop c)) (.own2 (XX.set r (row.take c ++ [.none] ++ row.drop c))) rfl hU0 (nd_set hX0 fun x hx => by
      rcases List.mem_append.mp hx with z | z
      · rcases List.mem_append.mp z with q | q
        · exact hrn x (List.mem_of_mem_take q)
        · simp at q; rw [q]; rfl
      · exact hrn x (List.mem_of_mem_drop z)) (by intro z; have := congrArg List.length z; rw [List.length_set, List.length_nil] at this; omega) (by rw [List.length_set]; omega)
    refine ⟨D', fn_rt (head _ (runs_seq f4 (runs_seq (g4 _ _) (runs_seq (g5 _ _) ?_)))), hD'⟩
    have n7 : ¬ way = 7 := by omega
    have n8 : ¬ way = 8 := by omega
    refine runs_seq (ρ1 := stS CD way r c kk UU (some (.own2 (XX.set r (row.take c ++ [.none] ++ row.drop c)))) NS z8) (S1 := S) (if_t (S1 := S) (by unfold stS; simp [e6]) ?_) ?_
    · unfold stS
      generalize NS.map PyData.str = NN at *
      generalize row.take c ++ [PyData.none] ++ row.drop c = RC at *
      simp [rnat, hrow, allD, pp]
    exact runs_seq (if_f (S1 := S) (by unfold stS; simp [n7]) rfl) (runs_seq (if_f (S1 := S) (by unfold stS; simp [n8]) rfl) ht)
  have g6 : ∀ (U' : List D) (t6 : T), sIf (cB (cBin (gEq false) (cVarU 1) (cC (.int 6)))) (sLM2 6 (cVarU 2) mInsert (aCons (cVar 3) (aCons (cC .none) aNil))) sSkip (stS CD way r c kk U' (some t6) NS z8) S = .nx (stS CD way r c kk U' (some t6) NS z8) S := fun U' t6 => if_f (S1 := S) (by unfold stS; simp [e6]) rfl
  by_cases e7 : way = 7
  · have pp : mPopAt (XX.map PyData.list) [.int (r : Int)] = some ((XX.map PyData.list).eraseIdx r, .list row) := by
      show (if smallI (r : Int) = true then (seqIndex? (r : Int) (XX.map PyData.list).length).bind fun k => ((XX.map PyData.list)[k]?).map fun d => ((XX.map PyData.list).eraseIdx k, d) else none) = _
      rw [if_pos smr, seq_ix6 (by rw [List.length_map]; omega), Option.bind_some, List.getElem?_map, hrow]
      rfl
    have em : (XX.map PyData.list).eraseIdx r = (XX.eraseIdx r).map PyData.list := (map_erase6 ..).symm
    obtain ⟨D', ht, hD'⟩ := tl UU (XX.eraseIdx r) (.own ((XX.map PyData.list).eraseIdx r)) (by rw [em]; rfl) hU0 (fun x hx => hX0 x (List.mem_of_mem_eraseIdx hx)) (by intro z; have := congrArg List.length z; rw [List.length_eraseIdx_of_lt (by omega), List.length_nil] at this; have := k.h2; omega) (by rw [List.length_eraseIdx_of_lt (by omega)]; omega)
    refine ⟨D', fn_rt (head _ (runs_seq f4 (runs_seq (g4 _ _) (runs_seq (g5 _ _) (runs_seq (g6 _ _) ?_))))), hD'⟩
    have n8 : ¬ way = 8 := by omega
    refine runs_seq (ρ1 := stS CD way r c kk UU (some (.own ((XX.map PyData.list).eraseIdx r))) NS z8) (S1 := S) (if_t (S1 := S) (by unfold stS; simp [e7]) ?_) ?_
    · unfold stS
      generalize NS.map PyData.str = NN at *
      generalize (XX.map PyData.list).eraseIdx r = RC at *
      simp [allD, pp]
    exact runs_seq (if_f (S1 := S) (by unfold stS; simp [n8]) rfl) ht
  have g7 : ∀ (U' : List D) (t6 : T), sIf (cB (cBin (gEq false) (cVarU 1) (cC (.int 7)))) (sHz 6 (sLM 6 mPopAt (aCons (cVar 2) aNil) kDrop)) sSkip (stS CD way r c kk U' (some t6) NS z8) S = .nx (stS CD way r c kk U' (some t6) NS z8) S := fun U' t6 => if_f (S1 := S) (by unfold stS; simp [e7]) rfl
  by_cases e8 : way = 8
  · have pp : mPopAt UU [.int (r : Int)] = some (UU.eraseIdx r, UU[r]'(by omega)) := by
      show (if smallI (r : Int) = true then (seqIndex? (r : Int) UU.length).bind fun k => (UU[k]?).map fun d => (UU.eraseIdx k, d) else none) = _
      rw [if_pos smr, seq_ix6 (by omega), Option.bind_some, List.getElem?_eq_getElem (by omega)]
      rfl
    obtain ⟨D', ht, hD'⟩ := tl (UU.eraseIdx r) XX (.own2 XX) rfl (fun x hx => hU0 x (List.mem_of_mem_eraseIdx hx)) hX0 hXn (by omega)
    refine ⟨D', fn_rt (head _ (runs_seq f4 (runs_seq (g4 _ _) (runs_seq (g5 _ _) (runs_seq (g6 _ _) (runs_seq (g7 _ _) ?_)))))), hD'⟩
    refine runs_seq (ρ1 := stS CD way r c kk (UU.eraseIdx r) (some (.own2 XX)) NS z8) (S1 := S) (if_t (S1 := S) (by unfold stS; simp [e8]) ?_) ht
    unfold stS
    generalize NS.map PyData.str = NN at *
    simp [allD, pp]
  obtain ⟨D', ht, hD'⟩ := tl UU XX (.own2 XX) rfl hU0 hX0 hXn (by omega)
  refine ⟨D', fn_rt (head _ (runs_seq f4 (runs_seq (g4 _ _) (runs_seq (g5 _ _) (runs_seq (g6 _ _) (runs_seq (g7 _ _) (runs_seq (if_f (S1 := S) (by unfold stS; simp [e8]) rfl) ht))))))), hD'⟩
end
end BV
/-! The program: filled, cell_of, place_of, units_of. -/
namespace BV
open PySem L2

theorem fn_ex {n : Nat} {g : SS} {ts : List T} {S S' : Sto} {e : Exc} {ρ' : En} (h : g (start0 n ts) S = .ex e ρ' S') : fnL n g ts S = .exc e S' := by rw [e_fn, h]
def enumF : Nat → List D → List D
  | _, [] => []
  | n, d :: ds => .tuple [.int n, d] :: enumF (n + 1) ds
theorem enumF_eq : ∀ (ds : List D) (n : Nat), (ds.mapIdx fun i d => PyData.tuple [.int ((n + i : Nat) : Int), d]) = enumF n ds
  | [], _ => rfl
  | d :: ds, n => by
    rw [List.mapIdx_cons, enumF, ← enumF_eq ds (n + 1)]
    simp only [Nat.add_zero, List.cons.injEq, true_and]
    congr 1
    funext i d
    rw [show n + (i + 1) = n + 1 + i by omega]
theorem enumL_eq (ds : List D) : enumL ds = enumF 0 ds := by
  rw [← enumF_eq ds 0]
  unfold enumL
  congr 1
  funext i d
  rw [Nat.zero_add]
@[simp] theorem e_enum_l {xs : List D} : gEnum [.list xs] = some (enumF 0 xs) := by rw [← enumL_eq]; rfl
@[simp] theorem e_enum_t {xs : List D} : gEnum [.tuple xs] = some (enumF 0 xs) := by rw [← enumL_eq]; rfl

def b1_filled : SS := sIf (cB (cUn gNotN (cVarU 5))) (sLM 1 mAppend (aCons (cTup (aCons (cVar 4) (aCons (cVar 2) (aCons (cBin gIx (cVarU 5) (cC (.int 0))) (aCons (cBin gIx (cVarU 5) (cC (.int 1))) aNil))))) aNil) kDrop) sSkip
def b2_filled : SS := sFor (cRng gEnum (uCons (cVar 3) uNil)) (bTup 2 (bCons (bName 4) (bCons (bName 5) bNil))) b1_filled
def g_filled : SS := sSeq (sAsg 1 (cList aNil))
    (sSeq (sFor (cRng gEnum (uCons (cBin gIx (cVarU 0) (cC (.int 1))) uNil)) (bTup 2 (bCons (bName 2) (bCons (bName 3) bNil))) b2_filled)
    (sRetV 1))
def sem_filled : Fn := fnL 6 g_filled
def b1_cell_of : SS := sIf (cB (cBin (gEq false) (cBin gIx (cVarU 2) (cC (.int 2))) (cVarU 1))) (sRetV 2) sSkip
def g_cell_of : SS := sSeq (sIf (cT (cUn (gIsi "str") (cVarU 1))) (sFor (cSeq (cCall sem_filled (aCons (cVar 0) aNil))) (bName 2) b1_cell_of) sSkip)
    (sRaise "NoName")
def sem_cell_of : Fn := fnL 3 g_cell_of
def g_units_of : SS := sSeq (sAsgG (bTup 4 (bCons (bName 2) (bCons (bName 3) (bCons (bName 4) (bCons (bName 5) bNil))))) (cCall sem_cell_of (aCons (cVar 0) (aCons (cVar 1) aNil))))
    (sRet (cBin gAdd (cBin gIx (cBin gIx (cVarU 0) (cC (.int 0))) (cVarU 3)) (cVarU 5)))
def sem_units_of : Fn := fnL 6 g_units_of

/-- a cell with something in it: column, row, name, cam -/
structure FC where
  col : Nat
  row : Nat
  name : Str
  cam : Int
def fcD (f : FC) : D := .tuple [.int (f.col : Int), .int (f.row : Int), .str f.name, .int f.cam]
def fillRow (r : Nat) : Nat → List CellM → List FC
  | _, [] => []
  | c, none :: l => fillRow r (c + 1) l
  | c, some (x, i) :: l => ⟨c, r, x, i⟩ :: fillRow r (c + 1) l
def fillL : Nat → List (List CellM) → List FC
  | _, [] => []
  | r, row :: rows => fillRow r 0 row ++ fillL (r + 1) rows
theorem fillRow_len (r : Nat) : ∀ (l : List CellM) (c : Nat), (fillRow r c l).length ≤ l.length
  | [], _ => Nat.le_refl _
  | none :: l, c => by have := fillRow_len r l (c + 1); simp only [fillRow, List.length_cons]; omega
  | some (x, i) :: l, c => by have := fillRow_len r l (c + 1); simp only [fillRow, List.length_cons]; omega
theorem fillL_len {w : Nat} : ∀ (rows : List (List CellM)) (r : Nat), (∀ l ∈ rows, l.length ≤ w) → (fillL r rows).length ≤ rows.length * w
  | [], _, _ => by simp [fillL]
  | l :: rows, r, h => by
    have h1 := fillRow_len r l 0
    have h2 := h l (List.mem_cons_self ..)
    have h3 := fillL_len rows (r + 1) fun q hq => h q (List.mem_cons_of_mem _ hq)
    simp only [fillL, List.length_append, List.length_cons, Nat.succ_mul]
    omega
theorem fillRow_names (r : Nat) : ∀ (l : List CellM) (c : Nat), (fillRow r c l).map FC.name = l.filterMap nameC
  | [], _ => rfl
  | none :: l, c => fillRow_names r l (c + 1)
  | some (x, i) :: l, c => by
    show x :: (fillRow r (c + 1) l).map FC.name = x :: l.filterMap nameC
    rw [fillRow_names r l (c + 1)]
theorem fillL_names : ∀ (rows : List (List CellM)) (r : Nat), (fillL r rows).map FC.name = namesOf rows
  | [], _ => rfl
  | l :: rows, r => by
    show (fillRow r 0 l ++ fillL (r + 1) rows).map FC.name = _
    rw [List.map_append, fillRow_names, fillL_names rows (r + 1)]
    unfold namesOf
    rw [List.flatten_cons, List.filterMap_append]
theorem fillRow_at (r : Nat) : ∀ (l : List CellM) (c : Nat) (f : FC), f ∈ fillRow r c l → f.row = r ∧ c ≤ f.col ∧ l[f.col - c]? = some (some (f.name, f.cam))
  | [], _, _, h => nomatch h
  | none :: l, c, f, h => by
    obtain ⟨e1, e2, e3⟩ := fillRow_at r l (c + 1) f h
    refine ⟨e1, by omega, ?_⟩
    rw [show f.col - c = (f.col - (c + 1)) + 1 by omega]
    simpa using e3
  | some (x, i) :: l, c, f, h => by
    rcases List.mem_cons.mp h with h | h
    · subst h
      exact ⟨rfl, Nat.le_refl _, by simp⟩
    · obtain ⟨e1, e2, e3⟩ := fillRow_at r l (c + 1) f h
      refine ⟨e1, by omega, ?_⟩
      rw [show f.col - c = (f.col - (c + 1)) + 1 by omega]
      simpa using e3
theorem fillL_at : ∀ (rows : List (List CellM)) (r : Nat) (f : FC), f ∈ fillL r rows → r ≤ f.row ∧ ∃ l, rows[f.row - r]? = some l ∧ l[f.col]? = some (some (f.name, f.cam))
  | [], _, _, h => nomatch h
  | l :: rows, r, f, h => by
    rcases List.mem_append.mp h with h | h
    · obtain ⟨e1, e2, e3⟩ := fillRow_at r l 0 f h
      exact ⟨by omega, l, by rw [e1, Nat.sub_self]; rfl, by simpa using e3⟩
    · obtain ⟨e1, q, e2, e3⟩ := fillL_at rows (r + 1) f h
      refine ⟨by omega, q, ?_, e3⟩
      rw [show f.row - r = (f.row - (r + 1)) + 1 by omega]
      simpa using e2
/-! ### the walk -/
def stF (d : D) (acc : List FC) (a b c e : Option T) : En := [some (.val d), some (.own (acc.map fcD)), a, b, c, e]
theorem app_ok {acc : List D} {d : D} (h : acc.length < 100000) : mAppend acc [d] = some (acc ++ [d], .none) := by
  show (if acc.length < sizeLine then _ else _) = _
  rw [if_pos (Nat.lt_of_lt_of_le h (by decide))]
theorem fill_row {d bd : D} {S : Sto} {r : Nat} : ∀ (l : List CellM) (c : Nat) (acc : List FC) (x y : Option T), acc.length + l.length ≤ 50000 →
    ∃ x' y', forL (bTup 2 (bCons (bName 4) (bCons (bName 5) bNil))) b1_filled (enumF c (l.map cellD)) (stF d acc (some (.val (.int r))) (some (.val bd)) x y) S = .nx (stF d (acc ++ fillRow r c l) (some (.val (.int r))) (some (.val bd)) x' y') S
  | [], c, acc, x, y, _ => ⟨x, y, by simp [fillRow, enumF, forL]⟩
  | cl :: l, c, acc, x, y, h => by
    rw [List.length_cons] at h
    have e0 : bTup 2 (bCons (bName 4) (bCons (bName 5) bNil)) (.tuple [.int (c : Int), cellD cl]) (stF d acc (some (.val (.int r))) (some (.val bd)) x y) = some (stF d acc (some (.val (.int r))) (some (.val bd)) (some (.val (.int c))) (some (.val (cellD cl)))) := rfl
    rw [List.map_cons, enumF, forL_cons e0]
    cases cl with
    | none =>
      have : b1_filled (stF d acc (some (.val (.int r))) (some (.val bd)) (some (.val (.int c))) (some (.val (cellD none)))) S = .nx (stF d acc (some (.val (.int r))) (some (.val bd)) (some (.val (.int c))) (some (.val (cellD none)))) S := by simp [b1_filled, stF, cellD]
      rw [this]
      exact fill_row l (c + 1) acc _ _ (by omega)
    | some p =>
      obtain ⟨n, i⟩ := p
      have e1 := app_ok (acc := acc.map fcD) (d := .tuple [.int (c : Int), .int (r : Int), .str n, .int i]) (by rw [List.length_map]; omega)
      have : b1_filled (stF d acc (some (.val (.int r))) (some (.val bd)) (some (.val (.int c))) (some (.val (cellD (some (n, i)))))) S = .nx (stF d (acc ++ [⟨c, r, n, i⟩]) (some (.val (.int r))) (some (.val bd)) (some (.val (.int c))) (some (.val (cellD (some (n, i)))))) S := by
        simp [b1_filled, stF, cellD, e1, fcD]
      rw [this]
      obtain ⟨x', y', e2⟩ := fill_row (d := d) (bd := bd) (S := S) (r := r) l (c + 1) (acc ++ [⟨c, r, n, i⟩]) (some (.val (.int c))) (some (.val (cellD (some (n, i))))) (by rw [List.length_append]; simp; omega)
      refine ⟨x', y', ?_⟩
      rw [List.append_assoc] at e2
      exact e2
theorem fill_rows {d : D} {S : Sto} {w : Nat} : ∀ (rows : List (List CellM)) (r : Nat) (acc : List FC) (a b x y : Option T), (∀ l ∈ rows, l.length ≤ w) → acc.length + rows.length * w ≤ 50000 →
    ∃ a' b' x' y', forL (bTup 2 (bCons (bName 2) (bCons (bName 3) bNil))) b2_filled (enumF r (rows.map rowD)) (stF d acc a b x y) S = .nx (stF d (acc ++ fillL r rows) a' b' x' y') S
  | [], r, acc, a, b, x, y, _, _ => ⟨a, b, x, y, by simp [fillL, enumF, forL]⟩
  | l :: rows, r, acc, a, b, x, y, hw, h => by
    rw [List.length_cons, Nat.succ_mul] at h
    have hl := hw l (List.mem_cons_self ..)
    have e0 : bTup 2 (bCons (bName 2) (bCons (bName 3) bNil)) (.tuple [.int (r : Int), rowD l]) (stF d acc a b x y) = some (stF d acc (some (.val (.int r))) (some (.val (rowD l))) x y) := rfl
    rw [List.map_cons, enumF, forL_cons e0]
    obtain ⟨x', y', e1⟩ := fill_row (d := d) (bd := rowD l) (S := S) (r := r) l 0 acc x y (by omega)
    have : b2_filled (stF d acc (some (.val (.int r))) (some (.val (rowD l))) x y) S = .nx (stF d (acc ++ fillRow r 0 l) (some (.val (.int r))) (some (.val (rowD l))) x' y') S := by
      rw [← e1]
      simp [b2_filled, stF, rowD]
    rw [this]
    have hf := fillRow_len r l 0
    obtain ⟨a', b', x'', y'', e2⟩ := fill_rows (d := d) (S := S) (w := w) rows (r + 1) (acc ++ fillRow r 0 l) (some (.val (.int r))) (some (.val (rowD l))) x' y' (fun q hq => hw q (List.mem_cons_of_mem _ hq)) (by rw [List.length_append]; omega)
    refine ⟨a', b', x'', y'', ?_⟩
    rw [List.append_assoc] at e2
    exact e2
theorem filled_spec {units : List Int} {rows : List (List CellM)} {S : Sto} {w : Nat} (hw : ∀ l ∈ rows, l.length ≤ w) (hz : rows.length * w ≤ 50000) : sem_filled [.val (caseD units rows)] S = .ok (.own ((fillL 0 rows).map fcD)) S := by
  unfold sem_filled
  refine fn_rt ?_
  unfold g_filled
  obtain ⟨a, b, x, y, e⟩ := fill_rows (d := caseD units rows) (S := S) rows 0 [] none none none none hw (by simpa using hz)
  refine runs_seq (by simp; exact ⟨rfl, rfl⟩) ?_
  refine runs_seq (by simp [caseD]; exact e) ?_
  simp [stF]
theorem case_rows {w h : Nat} {units : List Int} {rows : List (List CellM)} (k : CaseOk w h units rows) (hw : w ≤ 15) (hh : h ≤ 15) : (∀ l ∈ rows, l.length ≤ 15) ∧ rows.length * 15 ≤ 50000 := by
  refine ⟨fun l hl => by rw [k.hw l hl]; exact hw, ?_⟩
  rw [k.hr]
  omega
/-! ### a name's cell -/
def findC (rows : List (List CellM)) (x : Str) : Option FC := (fillL 0 rows).find? fun f => decide (f.name = x)
theorem cell_run {d : D} {x : Str} {S : Sto} : ∀ (fs : List FC) (y : Option T), match fs.find? (fun f => decide (f.name = x)) with
    | some f => forL (bName 2) b1_cell_of (fs.map fcD) [some (.val d), some (.val (.str x)), y] S = .rt (.val (fcD f)) S
    | none => ∃ y', forL (bName 2) b1_cell_of (fs.map fcD) [some (.val d), some (.val (.str x)), y] S = .nx [some (.val d), some (.val (.str x)), y'] S
  | [], y => ⟨y, rfl⟩
  | f :: fs, y => by
    have e0 : bName 2 (fcD f) [some (.val d), some (.val (.str x)), y] = some [some (.val d), some (.val (.str x)), some (.val (fcD f))] := rfl
    rw [List.map_cons, forL_cons e0, List.find?_cons]
    by_cases h : f.name = x
    · have : b1_cell_of [some (.val d), some (.val (.str x)), some (.val (fcD f))] S = .rt (.val (fcD f)) S := by simp [b1_cell_of, fcD, h]
      rw [this, decide_eq_true h]
    · have : b1_cell_of [some (.val d), some (.val (.str x)), some (.val (fcD f))] S = .nx [some (.val d), some (.val (.str x)), some (.val (fcD f))] S := by simp [b1_cell_of, fcD, h]
      rw [this, decide_eq_false h]
      exact cell_run fs (some (.val (fcD f)))
theorem cell_of_spec {units : List Int} {rows : List (List CellM)} {S : Sto} {w : Nat} {x : Str} (hw : ∀ l ∈ rows, l.length ≤ w) (hz : rows.length * w ≤ 50000) : sem_cell_of [.val (caseD units rows), .val (.str x)] S = (match findC rows x with
    | some f => .ok (.val (fcD f)) S
    | none => .exc ⟨"NoName", none⟩ S) := by
  unfold sem_cell_of
  have e1 := filled_spec (units := units) (S := S) hw hz
  have e2 := cell_run (d := caseD units rows) (x := x) (S := S) (fillL 0 rows) none
  have e2' : (match findC rows x with
    | some f => forL (bName 2) b1_cell_of ((fillL 0 rows).map fcD) [some (.val (caseD units rows)), some (.val (.str x)), none] S = .rt (.val (fcD f)) S
    | none => ∃ y', forL (bName 2) b1_cell_of ((fillL 0 rows).map fcD) [some (.val (caseD units rows)), some (.val (.str x)), none] S = .nx [some (.val (caseD units rows)), some (.val (.str x)), y'] S) := e2
  cases hf : findC rows x with
  | some f =>
    rw [hf] at e2'
    refine fn_rt ?_
    refine runs_rt (if_t (by simp; rfl) ?_)
    simp [e1, e2']
  | none =>
    rw [hf] at e2'
    obtain ⟨y', e2'⟩ := e2'
    refine fn_ex (ρ' := [some (.val (caseD units rows)), some (.val (.str x)), y']) ?_
    refine runs_seq (if_t (by simp; rfl) (by simp [e1]; exact e2')) ?_
    simp
theorem cell_of_else {d c : D} {S : Sto} (h : isDct d = false) (h2 : ∀ x, d ≠ .str x) : sem_cell_of [.val c, .val d] S = .exc ⟨"NoName", none⟩ S := by
  unfold sem_cell_of
  refine fn_ex (ρ' := [some (.val c), some (.val d), none]) ?_
  unfold g_cell_of
  cases d with
  | str x => exact absurd rfl (h2 x)
  | dict _ => cases h
  | _ => simp
theorem findC_mem {rows : List (List CellM)} {x : Str} {f : FC} (h : findC rows x = some f) : f ∈ fillL 0 rows ∧ f.name = x := by
  have h1 := List.mem_of_find?_eq_some h
  have h2 := List.find?_some h
  exact ⟨h1, of_decide_eq_true h2⟩
theorem findC_some {rows : List (List CellM)} {x : Str} (h : x ∈ namesOf rows) : ∃ f, findC rows x = some f := by
  rw [← fillL_names rows 0] at h
  obtain ⟨f, hf, e⟩ := List.mem_map.mp h
  cases q : findC rows x with
  | some g => exact ⟨g, rfl⟩
  | none =>
    have := List.find?_eq_none.mp q f hf
    simp [e] at this
theorem findC_none {rows : List (List CellM)} {x : Str} (h : x ∉ namesOf rows) : findC rows x = none := by
  cases q : findC rows x with
  | none => rfl
  | some f =>
    obtain ⟨h1, h2⟩ := findC_mem q
    exact absurd (by rw [← fillL_names rows 0]; exact List.mem_map.mpr ⟨f, h1, h2⟩) h
/-- the units of a cell -/
def unitsC (units : List Int) (f : FC) : Int := (units[f.row]?).getD 0 + f.cam
theorem units_of_spec {units : List Int} {rows : List (List CellM)} {S : Sto} {w : Nat} {x : Str} {f : FC} (hw : ∀ l ∈ rows, l.length ≤ w) (hz : rows.length * w ≤ 50000) (hl : units.length = rows.length) (hf : findC rows x = some f) :
    sem_units_of [.val (caseD units rows), .val (.str x)] S = .ok (.val (.int (unitsC units f))) S := by
  unfold sem_units_of
  refine fn_rt ?_
  have e := cell_of_spec (units := units) (S := S) (x := x) hw hz
  rw [hf] at e
  obtain ⟨_, l, e1, e2⟩ := fillL_at rows 0 f (findC_mem hf).1
  rw [Nat.sub_zero] at e1
  have hr : f.row < units.length := by rw [hl]; exact (List.getElem?_eq_some_iff.mp e1).1
  have e3 : atI (units.map PyData.int) (f.row : Int) = some (.int units[f.row]) := atI_nat (by rw [List.getElem?_map, List.getElem?_eq_getElem hr]; rfl)
  have e4 : unitsC units f = units[f.row] + f.cam := by unfold unitsC; rw [List.getElem?_eq_getElem hr]; rfl
  rw [e4]
  unfold g_units_of
  refine runs_seq (by simp [e, fcD]; exact ⟨rfl, rfl⟩) ?_
  simp [caseD, e3]
end BV
/-! k06: the law itself. -/
namespace BV
open PySem L2
section
variable {S : Sto}
theorem vet_yes {d : D} (h : noDict d = true) (hc : caseB d = true) : sem_vet_case [.val d] S = .ok (.val (.bool true)) S := by
  have e := iscase_spec (S := S) h
  rw [hc] at e
  unfold sem_vet_case
  refine fn_rt ?_
  unfold g_vet_case
  exact runs_seq (if_f (S1 := S) (by simp [e]) rfl) (by simp)
theorem vet_no {d : D} (h : noDict d = true) (hc : caseB d = false) : sem_vet_case [.val d] S = .exc ⟨"NoCase", none⟩ S := by
  have e := iscase_spec (S := S) h
  rw [hc] at e
  have st : g_vet_case [some (.val d)] S = .ex ⟨"NoCase", none⟩ [some (.val d)] S := by
    unfold g_vet_case
    simp [e]
  show fnL 1 g_vet_case [.val d] S = _
  rw [e_fn]
  show (match g_vet_case [some (.val d)] S with | .nx _ S' => R.ok (T.val .none) S' | .rt t S' => R.ok t S' | .ex e _ S' => R.exc e S' | _ => R.bad) = _
  rw [st]
theorem vetted_spec {d : D} (h : noDict d = true) : sem_law_vetted [.val d] S = .ok (.val (if caseB d = true then .bool true else .str "no case")) S := by
  by_cases hc : caseB d = true
  · rw [if_pos hc]
    have e := vet_yes (S := S) h hc
    unfold sem_law_vetted
    refine fn_rt ?_
    unfold g_law_vetted
    exact tryAs_rt (by simp [e, gIsB])
  · rw [if_neg hc]
    have e := vet_no (S := S) h (by simpa using hc)
    unfold sem_law_vetted
    refine fn_rt ?_
    unfold g_law_vetted
    refine tryAs_ex (e := ⟨"NoCase", none⟩) (ρ1 := [some (.val d), none, none]) (S1 := S) (by simp [e]) (by simp) (by simp) (fun hx => ?_)
    have s1 : (sSeq (sAsg 2 (cIsXs hx 1 ["NoHoles", "NoName", "NoLayout", "Tight", "Loose", "NoLines", "TooMany", "NoEnd", "NoMold", "NoLine"]))
    (sSeq (sIf (bOr (cT (cVarU 2)) (bOr (cT (cIsXs hx 1 ["NoPaper", "NoText", "NoRow", "NoStep"])) (bNot (cT (cIsX hx 1 "ValueError"))))) (sRet (cC (.str "another"))) sSkip)
    (sRet (cIf (cT (cIsX hx 1 "CastError")) (cC (.str "no case")) (cC (.str "another")))))) [some (.val d), some (.exn hx.a hx.C hx.d ⟨"NoCase", none⟩), none] S = .rt (.val (.str "no case")) S := by
      refine runs_seq (ρ1 := [some (.val d), some (.exn hx.a hx.C hx.d ⟨"NoCase", none⟩), some (.val (.bool false))]) (S1 := S) (by simp) ?_
      refine runs_seq (if_f (S1 := S) (by simp) rfl) ?_
      simp
    show unset 1 _ = _
    rw [show ([some (.val d), none, none] : En).set 1 (some (.exn hx.a hx.C hx.d ⟨"NoCase", none⟩)) = [some (.val d), some (.exn hx.a hx.C hx.d ⟨"NoCase", none⟩), none] from rfl, s1]
    rfl
theorem good_spec6 {d : D} (h : noDict d = true) : sem_law_good [.val d] S = .ok (.val (.bool true)) S := by
  have e1 := lcase_spec (S := S) h
  have e2 := iscase_spec (S := S) h
  have e3 := vetted_spec (S := S) h
  unfold sem_law_good
  refine fn_rt ?_
  unfold g_law_good
  generalize caseB d = b at *
  refine runs_seq (ρ1 := [some (.val d), some (.val (.bool b)), none]) (S1 := S) (by simp [e1]) ?_
  refine runs_seq (ρ1 := [some (.val d), some (.val (.bool b)), some (.val (.bool b))]) (S1 := S) (by simp [e2]) ?_
  have nb : gEq true (.bool b) (.bool b) = some (.val (.bool false)) := by cases b <;> rfl
  refine runs_seq (if_f (S1 := S) (by simp [nb]) rfl) ?_
  cases b with
  | true =>
    have eq : gEq false (.bool true) (.bool true) = some (.val (.bool true)) := rfl
    simp at e3
    simp [e3, eq]
  | false =>
    simp at e3
    simp [e3]
theorem it6 {ns : List Int} (hl : ns.length ≤ 63) (hS : lfS S = true) {i : Nat} (hi : i < 10) {y2 y3 y4 y5 y6 y7 y8 y9 : Option T} :
    ∃ z2 z3 z4 z5 z6 z7 S', b1_law [some (.scr ns), some (.val (.int (i : Int))), y2, y3, y4, y5, y6, y7, y8, y9] S = .nx [some (.scr ns), some (.val (.int (i : Int))), z2, z3, z4, z5, z6, z7, y8, y9] S' ∧ lfS S' = true := by
  obtain ⟨a, b, e1, hbag⟩ := bag_spec (ns := ns) (k := (i : Int)) (S := S) (by omega) (by omega) hl
  have hb0 := bag_new (S := S) hbag
  obtain ⟨way, S1, e2, w0, w1, hb1, x1⟩ := draw (k := 15) hb0 (by decide) (by decide) (by decide)
  obtain ⟨p0, S2, e3, p00, p01, hb2, x2⟩ := draw (k := 15) hb1 (by decide) (by decide) (by decide)
  obtain ⟨p1, S3, e4, p10, p11, hb3, x3⟩ := draw (k := 15) hb2 (by decide) (by decide) (by decide)
  obtain ⟨p2, S4, e5, p20, p21, hb4, x4⟩ := draw (k := 26) hb3 (by decide) (by decide) (by decide)
  obtain ⟨t, S5, e6, t0, t1, hb5, x5⟩ := draw (k := 4) hb4 (by decide) (by decide) (by decide)
  obtain ⟨great, hgm, hgr⟩ : ∃ great : Int, gInt1 [.bool (decide (t = 1))] = some (.val (.int great)) ∧ (great = 0 ∨ great = 1) := by
    by_cases c : t = 1
    · rw [decide_eq_true c]; exact ⟨1, rfl, .inr rfl⟩
    · rw [decide_eq_false c]; exact ⟨0, rfl, .inl rfl⟩
  obtain ⟨w, h, units, rows, S6, e7, hb6, x6, k, hw, hh, _⟩ := case_spec hb5 (by decide) hgr
  have i0 : gIx (caseD units rows) (.int 0) = some (.val (.tuple (units.map PyData.int))) := rfl
  have i1 : gIx (caseD units rows) (.int 1) = some (.val (.tuple (rows.map rowD))) := rfl
  obtain ⟨r0, hr0⟩ : ∃ r0, rows[0]? = some r0 := ⟨rows[0]'(by have := k.h2; have := k.hr; omega), List.getElem?_eq_getElem (by have := k.h2; have := k.hr; omega)⟩
  have i10 : gIx (.tuple (rows.map rowD)) (.int 0) = some (.val (rowD r0)) := by
    rw [g_ix_t, show (0 : Int) = ((0 : Nat) : Int) from rfl, atI_nat (v := rowD r0) (by rw [List.getElem?_map, hr0]; rfl)]
    rfl
  have lu := g_len_t (xs := units.map PyData.int)
  rw [List.length_map, k.hu] at lu
  have lr : gLen [rowD r0] = some (.val (.int (w : Int))) := by
    have := g_len_t (xs := r0.map cellD)
    rw [List.length_map, k.hw r0 (List.mem_of_getElem? hr0)] at this
    exact this
  have h2 := k.h2
  have w2 := k.w2
  have m1 : gMod (.int p0) (.int (h : Int)) = some (.val (.int (p0 % (h : Int)))) := g_mod_i (by omega)
  have m2 : gMod (.int p1) (.int (w : Int)) = some (.val (.int (p1 % (w : Int)))) := g_mod_i (by omega)
  have a1 := Int.emod_nonneg p0 (show (h : Int) ≠ 0 by omega)
  have a2 := Int.emod_lt_of_pos p0 (show (0 : Int) < (h : Int) by omega)
  have b1 := Int.emod_nonneg p1 (show (w : Int) ≠ 0 by omega)
  have b2 := Int.emod_lt_of_pos p1 (show (0 : Int) < (w : Int) by omega)
  obtain ⟨r, hr⟩ : ∃ r : Nat, p0 % (h : Int) = (r : Int) := ⟨(p0 % (h : Int)).toNat, by omega⟩
  obtain ⟨c, hc⟩ : ∃ c : Nat, p1 % (w : Int) = (c : Int) := ⟨(p1 % (w : Int)).toNat, by omega⟩
  obtain ⟨kk, rfl⟩ : ∃ kk : Nat, p2 = (kk : Int) := ⟨p2.toNat, by omega⟩
  rw [hr] at m1 a2
  rw [hc] at m2 b2
  obtain ⟨d, e8, hnd⟩ := spoilt_spec (S := S6) k hw hh w0 w1 (r := r) (c := c) (kk := kk) (by omega) (by omega) (by omega)
  have e9 := good_spec6 (S := S6) hnd
  have e10 := good_spec6 (S := S6) (caseD_nd units rows)
  have e1' : sem_law_bag [.scr ns, .val (.int (i : Int))] S = .ok (.own [.int a, .int b]) S := e1
  have l0 : gIx (.list [.int p0, .int p1, .int (kk : Int)]) (.int 0) = some (.val (.int p0)) := rfl
  have l1 : gIx (.list [.int p0, .int p1, .int (kk : Int)]) (.int 1) = some (.val (.int p1)) := rfl
  have l2 : gIx (.list [.int p0, .int p1, .int (kk : Int)]) (.int 2) = some (.val (.int (kk : Int))) := rfl
  refine ⟨some (.cel S.length), some (.val (.int way)), some (.own [.int p0, .int p1, .int (kk : Int)]), some (.val (caseD units rows)), some (.val (.int (r : Int))), some (.val d), S6, ?_, lfS_ext (lfS_new hS) (((((x1.trans x2).trans x3).trans x4).trans x5).trans x6) hb6⟩
  unfold b1_law
  generalize caseD units rows = CD at *
  generalize units.map PyData.int = UU at *
  generalize rows.map rowD = RR at *
  generalize rowD r0 = R0 at *
  refine runs_seq (ρ1 := [some (.scr ns), some (.val (.int (i : Int))), some (.cel S.length), y3, y4, y5, y6, y7, y8, y9]) (S1 := S ++ [.lst [.int a, .int b]]) (by simp [e1']) ?_
  generalize S ++ [Ce.lst [.int a, .int b]] = S0 at *
  generalize S.length = N0 at *
  refine runs_seq (ρ1 := [some (.scr ns), some (.val (.int (i : Int))), some (.cel N0), some (.val (.int way)), y4, y5, y6, y7, y8, y9]) (S1 := S1) (by simp [e2]) ?_
  refine runs_seq (ρ1 := [some (.scr ns), some (.val (.int (i : Int))), some (.cel N0), some (.val (.int way)), some (.own [.int p0, .int p1, .int (kk : Int)]), y5, y6, y7, y8, y9]) (S1 := S4) (by simp [e3, e4, e5]) ?_
  refine runs_seq (ρ1 := [some (.scr ns), some (.val (.int (i : Int))), some (.cel N0), some (.val (.int way)), some (.own [.int p0, .int p1, .int (kk : Int)]), some (.val CD), y6, y7, y8, y9]) (S1 := S6) (by simp [e6, hgm, e7]) ?_
  refine runs_seq (ρ1 := [some (.scr ns), some (.val (.int (i : Int))), some (.cel N0), some (.val (.int way)), some (.own [.int p0, .int p1, .int (kk : Int)]), some (.val CD), some (.val (.int (r : Int))), y7, y8, y9]) (S1 := S6) (by simp [l0, i0, lu, m1, -g_len_t, -g_ix_l]) ?_
  refine runs_seq (ρ1 := [some (.scr ns), some (.val (.int (i : Int))), some (.cel N0), some (.val (.int way)), some (.own [.int p0, .int p1, .int (kk : Int)]), some (.val CD), some (.val (.int (r : Int))), some (.val d), y8, y9]) (S1 := S6) (by simp [l1, l2, i1, i10, lr, m2, e8, -g_len_t, -g_ix_l, -g_ix_t]) ?_
  exact if_f (S1 := S6) (by simp [e9, e10]) (by simp)
def someL : List D := [.none, .bool true, .int 5, .str "", .str "1 a _/1 - -", .tuple [], .list [], .tuple [.tuple [], .tuple []], .tuple [.tuple [.int 1, .int 1], .tuple []], .tuple [.tuple [.int 1, .int 1], .tuple [.tuple [], .tuple []]],
  .tuple [.tuple [.int 1], .tuple [.tuple [.none, .tuple [.str " ", .int 0]]]], .tuple [.tuple [.int 1, .int 1], .tuple [.tuple [.tuple [.str "a", .int 0], .tuple [.str " ", .int 0]], .tuple [.none, .none]]],
  .tuple [.tuple [.int 1, .int 1], .tuple [.tuple [.none, .none], .tuple [.none, .none]]], .tuple [.tuple [.int 1, .int 1], .tuple [.tuple [.tuple [.str "a", .int (-1)], .tuple [.str " ", .int 0]], .tuple [.none, .none]]]]
def s12 : D := .tuple [.tuple [.int 1, .int 1], .tuple [.tuple [.none, .none], .tuple [.none, .none]]]
def handL : List D := [.list [.int 1, .int 1], .list [.list [.tuple [.str "a", .int 0], .tuple [.str " ", .int 0]], .list [.none, .none]]]
theorem law_true (ns : List Int) (hl : ns.length ≤ 63) : ∃ S, sem_law [.scr ns] [] = .ok (.val (.bool true)) S := by
  obtain ⟨N, hN, hN10⟩ : ∃ N : Nat, gMax2 [.int 1, .int (if (ns.length : Int) < 10 then (ns.length : Int) else 10)] = some (.val (.int (N : Int))) ∧ N ≤ 10 := by
    refine ⟨max 1 (min 10 ns.length), ?_, by omega⟩
    have e : (if (if (ns.length : Int) < 10 then (ns.length : Int) else 10) > 1 then (if (ns.length : Int) < 10 then (ns.length : Int) else 10) else 1) = ((max 1 (min 10 ns.length) : Nat) : Int) := by
      repeat' split
      all_goals omega
    rw [← e]
    exact g_max
  have mn : gMin2 [.int 10, .int (ns.length : Int)] = some (.val (.int (if (ns.length : Int) < 10 then (ns.length : Int) else 10))) := g_min
  have rg : gRng1 [.int (N : Int)] = some (rangeL 0 N) := g_rng1 (le_line (by omega))
  obtain ⟨ρ', S2, e2, y1, y2, y3, y4, y5, y6, y7, rfl, hS2⟩ := forL_inv (b := bName 1) (body := b1_law)
    (fun i ρ S' => ∃ y1 y2 y3 y4 y5 y6 y7, ρ = [some (.scr ns), y1, y2, y3, y4, y5, y6, y7, none, none] ∧ lfS S' = true)
    (rangeL 0 N) 0 [some (.scr ns), none, none, none, none, none, none, none, none, none] [] ⟨none, none, none, none, none, none, none, rfl, rfl⟩ (by
      rintro i d ρ S2 hd ⟨y1, y2, y3, y4, y5, y6, y7, rfl, hS2⟩
      obtain ⟨hi, rfl⟩ := range0_get hd
      obtain ⟨z2, z3, z4, z5, z6, z7, S3, e3, hS3⟩ := it6 (S := S2) hl hS2 (i := i) (by omega) (y2 := y2) (y3 := y3) (y4 := y4) (y5 := y5) (y6 := y6) (y7 := y7) (y8 := none) (y9 := none)
      exact ⟨_, rfl, _, S3, .inl e3, _, z2, z3, z4, z5, z6, z7, rfl, hS3⟩)
  have nS : noDicts someL = true := rfl
  have hand : noDict (.list handL) = true := rfl
  have ic := iscase_spec (S := S2) hand
  have hc : caseB (.list handL) = false := rfl
  rw [hc] at ic
  have nq : gEq true (.list handL) (.list handL) = some (.val (.bool false)) := by
    rw [g_eq (eqOk_of (n := 7) (by decide +kernel) (by decide)) (eqOk_of (n := 7) (by decide +kernel) (by decide))]
    have : PyData.eqv (.list handL) (.list handL) = true := by decide +kernel
    rw [this]
    rfl
  have z14 : (14 : Nat) ≤ sizeLine := le_line (by decide)
  have a1 : gAdd (.list (someL.take 10)) (.list ((someL.drop 10).take 2)) = some (.own (someL.take 12)) := by
    rw [g_add_l (Nat.le_trans (by show 12 ≤ 14; decide) z14)]
    rfl
  have a2 : mAppend (someL.take 12) [s12] = some (someL.take 13, .none) := by
    have := BV.app_ok (acc := someL.take 12) (d := s12) (show 12 < 100000 by decide)
    rw [this]
    rfl
  have a3 : gAdd (.list (someL.take 13)) (.list (someL.drop 13)) = some (.own someL) := by
    rw [g_add_l (Nat.le_trans (by show 14 ≤ 14; decide) z14)]
    rfl
  have lc := lcM_map (S := S2) (b := bName 7) (elt := cCall sem_law_good (aCons (cVar 7) aNil)) (ρ := [some (.scr ns), y1, y2, y3, y4, y5, y6, none, some (.own (someL.take 13)), some (.own handL)]) (fun _ => .bool true) someL (fun d hd => by
    have e := good_spec6 (S := S2) (nds_all nS d hd)
    refine ⟨[some (.scr ns), y1, y2, y3, y4, y5, y6, some (.val d), some (.own (someL.take 13)), some (.own handL)], .val (.bool true), rfl, ?_, rfl⟩
    generalize someL.take 13 = Q at *
    generalize handL = HL at *
    simp [e])
  have ga : gAll [.list (someL.map fun _ => PyData.bool true)] = some (.val (.bool true)) := by
    have := g_all_m (p := fun (_ : D) => true) (xs := someL)
    rw [this]
    rfl
  have d1 : (cList (aCons (cC .none) (aCons (cC (.bool true)) (aCons (cC (.int 5)) (aCons (cC (.str "")) (aCons (cC (.str "1 a _/1 - -")) (aCons (cTup aNil) (aCons (cList aNil) (aCons (cTup (aCons (cTup aNil) (aCons (cTup aNil) aNil))) (aCons (cTup (aCons (cTup (aCons (cC (.int 1)) (aCons (cC (.int 1)) aNil))) (aCons (cTup aNil) aNil))) (aCons (cTup (aCons (cTup (aCons (cC (.int 1)) (aCons (cC (.int 1)) aNil))) (aCons (cTup (aCons (cTup aNil) (aCons (cTup aNil) aNil))) aNil))) aNil))))))))))) [some (.scr ns), y1, y2, y3, y4, y5, y6, y7, none, none] S2 = .ok (.own (someL.take 10)) S2 := by
    simp
    rfl
  have d2 : (cList (aCons (cTup (aCons (cTup (aCons (cC (.int 1)) aNil)) (aCons (cTup (aCons (cTup (aCons (cC .none) (aCons (cTup (aCons (cC (.str " ")) (aCons (cC (.int 0)) aNil))) aNil))) aNil)) aNil))) (aCons (cTup (aCons (cTup (aCons (cC (.int 1)) (aCons (cC (.int 1)) aNil))) (aCons (cTup (aCons (cTup (aCons (cTup (aCons (cC (.str "a")) (aCons (cC (.int 0)) aNil))) (aCons (cTup (aCons (cC (.str " ")) (aCons (cC (.int 0)) aNil))) aNil))) (aCons (cTup (aCons (cC .none) (aCons (cC .none) aNil))) aNil))) aNil))) aNil))) [some (.scr ns), y1, y2, y3, y4, y5, y6, y7, some (.own (someL.take 10)), none] S2 = .ok (.own ((someL.drop 10).take 2)) S2 := by
    generalize someL.take 10 = Q
    simp
    rfl
  have d3 : (cList (aCons (cList (aCons (cC (.int 1)) (aCons (cC (.int 1)) aNil))) (aCons (cList (aCons (cList (aCons (cTup (aCons (cC (.str "a")) (aCons (cC (.int 0)) aNil))) (aCons (cTup (aCons (cC (.str " ")) (aCons (cC (.int 0)) aNil))) aNil))) (aCons (cList (aCons (cC .none) (aCons (cC .none) aNil))) aNil))) aNil))) [some (.scr ns), y1, y2, y3, y4, y5, y6, y7, some (.own (someL.take 13)), none] S2 = .ok (.own handL) S2 := by
    generalize someL.take 13 = Q
    simp
    rfl
  have d3' : (cList (aCons (cList (aCons (cC (.int 1)) (aCons (cC (.int 1)) aNil))) (aCons (cList (aCons (cList (aCons (cTup (aCons (cC (.str "a")) (aCons (cC (.int 0)) aNil))) (aCons (cTup (aCons (cC (.str " ")) (aCons (cC (.int 0)) aNil))) aNil))) (aCons (cList (aCons (cC .none) (aCons (cC .none) aNil))) aNil))) aNil))) [some (.scr ns), y1, y2, y3, y4, y5, y6, y7, some (.own (someL.take 13)), some (.own handL)] S2 = .ok (.own handL) S2 := by
    generalize someL.take 13 = Q
    simp
    rfl
  have d4 : (cList (aCons (cTup (aCons (cTup (aCons (cC (.int 1)) (aCons (cC (.int 1)) aNil))) (aCons (cTup (aCons (cTup (aCons (cTup (aCons (cC (.str "a")) (aCons (cUn gNeg (cC (.int 1))) aNil))) (aCons (cTup (aCons (cC (.str " ")) (aCons (cC (.int 0)) aNil))) aNil))) (aCons (cTup (aCons (cC .none) (aCons (cC .none) aNil))) aNil))) aNil))) aNil)) [some (.scr ns), y1, y2, y3, y4, y5, y6, y7, some (.own (someL.take 13)), some (.own handL)] S2 = .ok (.own (someL.drop 13)) S2 := by
    generalize someL.take 13 = Q
    simp
    rfl
  have d5 : (cTup (aCons (cTup (aCons (cC (.int 1)) (aCons (cC (.int 1)) aNil))) (aCons (cTup (aCons (cTup (aCons (cC .none) (aCons (cC .none) aNil))) (aCons (cTup (aCons (cC .none) (aCons (cC .none) aNil))) aNil))) aNil))) [some (.scr ns), y1, y2, y3, y4, y5, y6, y7, some (.own (someL.take 12)), none] S2 = .ok (.val s12) S2 := by
    generalize someL.take 12 = Q
    simp
    rfl
  refine ⟨S2, ?_⟩
  unfold sem_law
  refine fn_rt ?_
  unfold g_law
  refine runs_seq (ρ1 := [some (.scr ns), y1, y2, y3, y4, y5, y6, y7, none, none]) (S1 := S2) ?_ ?_
  · rw [← e2]
    simp [mn, hN, rg, -g_max, -g_min]
  refine runs_seq (asg_ok6 d1) ?_
  refine runs_seq (ρ1 := [some (.scr ns), y1, y2, y3, y4, y5, y6, y7, some (.own (someL.take 12)), none]) (S1 := S2) (asg_ok6 (bin_dd6 (t1 := .own (someL.take 10)) rfl rfl d2 rfl a1)) ?_
  refine runs_seq (ρ1 := [some (.scr ns), y1, y2, y3, y4, y5, y6, y7, some (.own (someL.take 13)), none]) (S1 := S2) ?_ ?_
  · generalize (cTup (aCons (cTup (aCons (cC (.int 1)) (aCons (cC (.int 1)) aNil))) (aCons (cTup (aCons (cTup (aCons (cC .none) (aCons (cC .none) aNil))) (aCons (cTup (aCons (cC .none) (aCons (cC .none) aNil))) aNil))) aNil))) = E5 at *
    generalize someL.take 12 = Q at *
    generalize someL.take 13 = Q2 at *
    generalize s12 = q at *
    simp [d5, allD, a2]
  refine runs_seq (asg_ok6 d3) ?_
  show (sSeq _ _) [some (.scr ns), y1, y2, y3, y4, y5, y6, y7, some (.own (someL.take 13)), some (.own handL)] S2 = _
  refine runs_seq (if_f (S1 := S2) ?_ rfl) ?_
  · generalize (cList (aCons (cList (aCons (cC (.int 1)) (aCons (cC (.int 1)) aNil))) (aCons (cList (aCons (cList (aCons (cTup (aCons (cC (.str "a")) (aCons (cC (.int 0)) aNil))) (aCons (cTup (aCons (cC (.str " ")) (aCons (cC (.int 0)) aNil))) aNil))) (aCons (cList (aCons (cC .none) (aCons (cC .none) aNil))) aNil))) aNil))) = E3 at *
    generalize someL.take 13 = Q2 at *
    generalize handL = HL at *
    simp [frT, asA, ic, lfT, lf, hS2, d3', nq]
  · have e : (cBin gAdd (cVarU 8) (cList (aCons (cTup (aCons (cTup (aCons (cC (.int 1)) (aCons (cC (.int 1)) aNil))) (aCons (cTup (aCons (cTup (aCons (cTup (aCons (cC (.str "a")) (aCons (cUn gNeg (cC (.int 1))) aNil))) (aCons (cTup (aCons (cC (.str " ")) (aCons (cC (.int 0)) aNil))) aNil))) (aCons (cTup (aCons (cC .none) (aCons (cC .none) aNil))) aNil))) aNil))) aNil))) [some (.scr ns), y1, y2, y3, y4, y5, y6, y7, some (.own (someL.take 13)), some (.own handL)] S2 = .ok (.own someL) S2 := bin_dd6 (t1 := .own (someL.take 13)) rfl rfl d4 rfl a3
    generalize (cList (aCons (cTup (aCons (cTup (aCons (cC (.int 1)) (aCons (cC (.int 1)) aNil))) (aCons (cTup (aCons (cTup (aCons (cTup (aCons (cC (.str "a")) (aCons (cUn gNeg (cC (.int 1))) aNil))) (aCons (cTup (aCons (cC (.str " ")) (aCons (cC (.int 0)) aNil))) aNil))) (aCons (cTup (aCons (cC .none) (aCons (cC .none) aNil))) aNil))) aNil))) aNil)) = E4 at *
    generalize hM : (someL.map fun _ => PyData.bool true) = M at *
    generalize someL.take 13 = Q2 at *
    generalize handL = HL at *
    generalize someL = SL at *
    generalize cBin gAdd (cVarU 8) E4 = E8 at *
    simp [e, wipeE, lc, ga]
end
end BV
namespace BV
open PySem PySem.Spec PyProof.Rows L2
def N_is_whole : List Str := ["thing"]
def N_is_from : List Str := ["thing", "least", "most"]
def N_is_name : List Str := ["thing", "sign"]
def N_is_cell : List Str := ["thing"]
def N_is_shape : List Str := ["thing", "units", "cells", "wide", "row"]
def N_is_case : List Str := ["thing", "names", "number", "row", "cell"]
def N_vet_case : List Str := ["thing"]
def N_law_cell : List Str := ["_law_script", "_law_k"]
def N_law_bag : List Str := ["_law_script", "_law_at", "_law_cell_here", "_law_mix", "_law_k"]
def N_law_take : List Str := ["_law_bag_here", "_law_many", "_law_digit"]
def N_law_name : List Str := ["_law_bag_here", "_law_letters", "_law_name_here", "_law_k"]
def N_law_case : List Str := ["_law_bag_here", "_law_great", "_law_wide", "_law_high", "_law_letters", "_law_first", "_law_units", "_law_cells", "_law_blank", "_law_names", "_law_k", "_law_place", "_law_name_here", "_law_cam", "_law_row"]
def N_law_whole : List Str := ["_law_thing", "_law_least", "_law_most"]
def N_law_is_name : List Str := ["_law_thing", "_law_sign"]
def N_law_cell_good : List Str := ["_law_cell_here", "_law_units"]
def N_law_is_case : List Str := ["_law_thing", "_law_names", "_law_units", "_law_row", "_law_number", "_law_cell_here"]
def N_law_vetted : List Str := ["_law_thing", "e", "_law_some"]
def N_law_good : List Str := ["_law_thing", "_law_due", "_law_found"]
def N_law_odd_cell : List Str := ["_law_kind", "_law_names", "_law_some"]
def N_law_spoilt : List Str := ["_law_case_here", "_law_way", "_law_row", "_law_column", "_law_kind", "_law_units", "_law_cells", "_law_names", "_law_one", "_law_found", "_law_half", "_law_cell_here"]
def N_law : List Str := ["_law_script", "_law_k", "_law_bag_here", "_law_way", "_law_places", "_law_case_here", "_law_row", "_law_thing", "_law_some", "_law_handed"]
def sc_is_whole : Scope := { kind := .function, names := [("thing", .local), ("isinstance", .globalImplicit), ("int", .globalImplicit), ("bool", .globalImplicit)], isGenerator := false, isCoroutine := false, more := [] }
theorem esc_is_whole : defScope s_is_whole = sc_is_whole := by kernel_rfl
theorem fs_is_whole : FnScope N_is_whole ["thing"] sc_is_whole := ⟨rfl, rfl, rfl, by decide +kernel, rfl, by decide +kernel, by decide +kernel⟩
def sc_is_from : Scope := { kind := .function, names := [("thing", .local), ("least", .local), ("most", .local), ("is_whole", .globalImplicit)], isGenerator := false, isCoroutine := false, more := [] }
theorem esc_is_from : defScope s_is_from = sc_is_from := by kernel_rfl
theorem fs_is_from : FnScope N_is_from ["thing", "least", "most"] sc_is_from := ⟨rfl, rfl, rfl, by decide +kernel, rfl, by decide +kernel, by decide +kernel⟩
def sc_is_name : Scope := { kind := .function, names := [("thing", .local), ("isinstance", .globalImplicit), ("str", .globalImplicit), ("len", .globalImplicit), ("MOST_LETTERS", .globalImplicit), ("all", .globalImplicit)], isGenerator := false, isCoroutine := false, more := [("fast", .str "thing"), ("fast", .str "sign")] }
theorem esc_is_name : defScope s_is_name = sc_is_name := by kernel_rfl
theorem fs_is_name : FnScope N_is_name ["thing"] sc_is_name := ⟨rfl, rfl, rfl, by decide +kernel, rfl, by decide +kernel, by decide +kernel⟩
def sc_is_cell : Scope := { kind := .function, names := [("thing", .local), ("isinstance", .globalImplicit), ("tuple", .globalImplicit), ("len", .globalImplicit), ("is_from", .globalImplicit), ("str", .globalImplicit), ("is_name", .globalImplicit), ("BLANK", .globalImplicit)], isGenerator := false, isCoroutine := false, more := [] }
theorem esc_is_cell : defScope s_is_cell = sc_is_cell := by kernel_rfl
theorem fs_is_cell : FnScope N_is_cell ["thing"] sc_is_cell := ⟨rfl, rfl, rfl, by decide +kernel, rfl, by decide +kernel, by decide +kernel⟩
def sc_is_shape : Scope := { kind := .function, names := [("thing", .local), ("units", .local), ("cells", .local), ("wide", .cell), ("isinstance", .globalImplicit), ("tuple", .globalImplicit), ("len", .globalImplicit), ("LEAST_SIZE", .globalImplicit), ("MOST_SIZE", .globalImplicit), ("all", .globalImplicit)], isGenerator := false, isCoroutine := false, more := [("fast", .str "thing"), ("fast", .str "units"), ("fast", .str "cells"), ("fast", .str "row"), ("fast", .str "wide")] }
theorem esc_is_shape : defScope s_is_shape = sc_is_shape := by kernel_rfl
theorem fs_is_shape : FnScope N_is_shape ["thing"] sc_is_shape := ⟨rfl, rfl, rfl, by decide +kernel, rfl, by decide +kernel, by decide +kernel⟩
def sc_is_case : Scope := { kind := .function, names := [("thing", .local), ("number", .local), ("names", .local), ("row", .local), ("cell", .local), ("is_shape", .globalImplicit), ("all", .globalImplicit), ("zip", .globalImplicit), ("is_cell", .globalImplicit), ("BLANK", .globalImplicit)], isGenerator := false, isCoroutine := false, more := [("fast", .str "thing"), ("fast", .str "number"), ("fast", .str "names"), ("fast", .str "row"), ("fast", .str "cell")] }
theorem esc_is_case : defScope s_is_case = sc_is_case := by kernel_rfl
theorem fs_is_case : FnScope N_is_case ["thing"] sc_is_case := ⟨rfl, rfl, rfl, by decide +kernel, rfl, by decide +kernel, by decide +kernel⟩
def sc_vet_case : Scope := { kind := .function, names := [("thing", .local), ("is_case", .globalImplicit), ("NoCase", .globalImplicit)], isGenerator := false, isCoroutine := false, more := [] }
theorem esc_vet_case : defScope s_vet_case = sc_vet_case := by kernel_rfl
theorem fs_vet_case : FnScope N_vet_case ["thing"] sc_vet_case := ⟨rfl, rfl, rfl, by decide +kernel, rfl, by decide +kernel, by decide +kernel⟩
def sc_law_cell : Scope := { kind := .function, names := [("_law_script", .local), ("_law_k", .local), ("len", .globalImplicit)], isGenerator := false, isCoroutine := false, more := [] }
theorem esc_law_cell : defScope s_law_cell = sc_law_cell := by kernel_rfl
theorem fs_law_cell : FnScope N_law_cell ["_law_script", "_law_k"] sc_law_cell := ⟨rfl, rfl, rfl, by decide +kernel, rfl, by decide +kernel, by decide +kernel⟩
def sc_law_bag : Scope := { kind := .function, names := [("_law_script", .local), ("_law_at", .local), ("_law_cell_here", .local), ("_law_mix", .local), ("_law_k", .local), ("abs", .globalImplicit), ("_law_cell", .globalImplicit), ("range", .globalImplicit), ("min", .globalImplicit), ("len", .globalImplicit)], isGenerator := false, isCoroutine := false, more := [] }
theorem esc_law_bag : defScope s_law_bag = sc_law_bag := by kernel_rfl
theorem fs_law_bag : FnScope N_law_bag ["_law_script", "_law_at"] sc_law_bag := ⟨rfl, rfl, rfl, by decide +kernel, rfl, by decide +kernel, by decide +kernel⟩
def sc_law_take : Scope := { kind := .function, names := [("_law_bag_here", .local), ("_law_many", .local), ("_law_digit", .local)], isGenerator := false, isCoroutine := false, more := [] }
theorem esc_law_take : defScope s_law_take = sc_law_take := by kernel_rfl
theorem fs_law_take : FnScope N_law_take ["_law_bag_here", "_law_many"] sc_law_take := ⟨rfl, rfl, rfl, by decide +kernel, rfl, by decide +kernel, by decide +kernel⟩
def sc_law_name : Scope := { kind := .function, names := [("_law_bag_here", .local), ("_law_letters", .local), ("_law_name_here", .local), ("_law_k", .local), ("range", .globalImplicit), ("_law_take", .globalImplicit), ("len", .globalImplicit)], isGenerator := false, isCoroutine := false, more := [] }
theorem esc_law_name : defScope s_law_name = sc_law_name := by kernel_rfl
theorem fs_law_name : FnScope N_law_name ["_law_bag_here", "_law_letters"] sc_law_name := ⟨rfl, rfl, rfl, by decide +kernel, rfl, by decide +kernel, by decide +kernel⟩
def sc_law_case : Scope := { kind := .function, names := [("_law_bag_here", .cell), ("_law_great", .local), ("_law_wide", .cell), ("_law_high", .local), ("_law_letters", .local), ("_law_first", .local), ("_law_row", .local), ("_law_units", .local), ("_law_cells", .local), ("_law_blank", .local), ("_law_names", .local), ("_law_k", .local), ("_law_place", .local), ("_law_name_here", .local), ("_law_cam", .local), ("_law_take", .globalImplicit), ("range", .globalImplicit), ("_law_name", .globalImplicit), ("tuple", .globalImplicit)], isGenerator := false, isCoroutine := false, more := [("fast", .str "_law_bag_here"), ("fast", .str "_law_great"), ("fast", .str "_law_wide"), ("fast", .str "_law_high"), ("fast", .str "_law_letters"), ("fast", .str "_law_first"), ("fast", .str "_law_row"), ("fast", .str "_law_units"), ("fast", .str "_law_cells"), ("fast", .str "_law_blank"), ("fast", .str "_law_names"), ("fast", .str "_law_k"), ("fast", .str "_law_place"), ("fast", .str "_law_name_here"), ("fast", .str "_law_cam")] }
theorem esc_law_case : defScope s_law_case = sc_law_case := by kernel_rfl
theorem fs_law_case : FnScope N_law_case ["_law_bag_here", "_law_great"] sc_law_case := ⟨rfl, rfl, rfl, by decide +kernel, rfl, by decide +kernel, by decide +kernel⟩
def sc_law_whole : Scope := { kind := .function, names := [("_law_thing", .local), ("_law_least", .local), ("_law_most", .local), ("isinstance", .globalImplicit), ("int", .globalImplicit), ("bool", .globalImplicit)], isGenerator := false, isCoroutine := false, more := [] }
theorem esc_law_whole : defScope s_law_whole = sc_law_whole := by kernel_rfl
theorem fs_law_whole : FnScope N_law_whole ["_law_thing", "_law_least", "_law_most"] sc_law_whole := ⟨rfl, rfl, rfl, by decide +kernel, rfl, by decide +kernel, by decide +kernel⟩
def sc_law_is_name : Scope := { kind := .function, names := [("_law_thing", .local), ("isinstance", .globalImplicit), ("str", .globalImplicit), ("len", .globalImplicit), ("any", .globalImplicit)], isGenerator := false, isCoroutine := false, more := [("fast", .str "_law_thing"), ("fast", .str "_law_sign")] }
theorem esc_law_is_name : defScope s_law_is_name = sc_law_is_name := by kernel_rfl
theorem fs_law_is_name : FnScope N_law_is_name ["_law_thing"] sc_law_is_name := ⟨rfl, rfl, rfl, by decide +kernel, rfl, by decide +kernel, by decide +kernel⟩
def sc_law_cell_good : Scope := { kind := .function, names := [("_law_cell_here", .local), ("_law_units", .local), ("isinstance", .globalImplicit), ("tuple", .globalImplicit), ("len", .globalImplicit), ("_law_whole", .globalImplicit), ("str", .globalImplicit), ("_law_is_name", .globalImplicit)], isGenerator := false, isCoroutine := false, more := [] }
theorem esc_law_cell_good : defScope s_law_cell_good = sc_law_cell_good := by kernel_rfl
theorem fs_law_cell_good : FnScope N_law_cell_good ["_law_cell_here", "_law_units"] sc_law_cell_good := ⟨rfl, rfl, rfl, by decide +kernel, rfl, by decide +kernel, by decide +kernel⟩
def sc_law_is_case : Scope := { kind := .function, names := [("_law_thing", .local), ("_law_row", .local), ("_law_names", .local), ("_law_units", .cell), ("isinstance", .globalImplicit), ("tuple", .globalImplicit), ("len", .globalImplicit), ("all", .globalImplicit), ("zip", .globalImplicit), ("set", .globalImplicit)], isGenerator := false, isCoroutine := false, more := [("fast", .str "_law_thing"), ("fast", .str "_law_number"), ("fast", .str "_law_row"), ("fast", .str "_law_names"), ("fast", .str "_law_units"), ("fast", .str "_law_cell_here")] }
theorem esc_law_is_case : defScope s_law_is_case = sc_law_is_case := by kernel_rfl
theorem fs_law_is_case : FnScope N_law_is_case ["_law_thing"] sc_law_is_case := ⟨rfl, rfl, rfl, by decide +kernel, rfl, by decide +kernel, by decide +kernel⟩
def sc_law_vetted : Scope := { kind := .function, names := [("_law_thing", .local), ("e", .local), ("_law_some", .local), ("vet_case", .globalImplicit), ("NoCase", .globalImplicit), ("isinstance", .globalImplicit), ("NoHoles", .globalImplicit), ("NoName", .globalImplicit), ("NoLayout", .globalImplicit), ("Tight", .globalImplicit), ("Loose", .globalImplicit), ("NoLines", .globalImplicit), ("TooMany", .globalImplicit), ("NoEnd", .globalImplicit), ("NoMold", .globalImplicit), ("NoLine", .globalImplicit), ("NoPaper", .globalImplicit), ("NoText", .globalImplicit), ("NoRow", .globalImplicit), ("NoStep", .globalImplicit), ("ValueError", .globalImplicit), ("CastError", .globalImplicit)], isGenerator := false, isCoroutine := false, more := [] }
theorem esc_law_vetted : defScope s_law_vetted = sc_law_vetted := by kernel_rfl
theorem fs_law_vetted : FnScope N_law_vetted ["_law_thing"] sc_law_vetted := ⟨rfl, rfl, rfl, by decide +kernel, rfl, by decide +kernel, by decide +kernel⟩
def sc_law_good : Scope := { kind := .function, names := [("_law_thing", .local), ("_law_due", .local), ("_law_found", .local), ("_law_is_case", .globalImplicit), ("is_case", .globalImplicit), ("isinstance", .globalImplicit), ("bool", .globalImplicit), ("_law_vetted", .globalImplicit)], isGenerator := false, isCoroutine := false, more := [] }
theorem esc_law_good : defScope s_law_good = sc_law_good := by kernel_rfl
theorem fs_law_good : FnScope N_law_good ["_law_thing"] sc_law_good := ⟨rfl, rfl, rfl, by decide +kernel, rfl, by decide +kernel, by decide +kernel⟩
def sc_law_odd_cell : Scope := { kind := .function, names := [("_law_kind", .local), ("_law_names", .local), ("_law_some", .local)], isGenerator := false, isCoroutine := false, more := [] }
theorem esc_law_odd_cell : defScope s_law_odd_cell = sc_law_odd_cell := by kernel_rfl
theorem fs_law_odd_cell : FnScope N_law_odd_cell ["_law_kind", "_law_names"] sc_law_odd_cell := ⟨rfl, rfl, rfl, by decide +kernel, rfl, by decide +kernel, by decide +kernel⟩
def sc_law_spoilt : Scope := { kind := .function, names := [("_law_case_here", .local), ("_law_way", .local), ("_law_row", .local), ("_law_column", .local), ("_law_kind", .local), ("_law_units", .local), ("_law_one", .local), ("_law_cells", .local), ("_law_names", .local), ("_law_found", .local), ("_law_half", .local), ("list", .globalImplicit), ("_law_odd_cell", .globalImplicit), ("tuple", .globalImplicit)], isGenerator := false, isCoroutine := false, more := [("fast", .str "_law_case_here"), ("fast", .str "_law_way"), ("fast", .str "_law_row"), ("fast", .str "_law_column"), ("fast", .str "_law_kind"), ("fast", .str "_law_units"), ("fast", .str "_law_one"), ("fast", .str "_law_cells"), ("fast", .str "_law_names"), ("fast", .str "_law_cell_here"), ("fast", .str "_law_found"), ("fast", .str "_law_half")] }
theorem esc_law_spoilt : defScope s_law_spoilt = sc_law_spoilt := by kernel_rfl
theorem fs_law_spoilt : FnScope N_law_spoilt ["_law_case_here", "_law_way", "_law_row", "_law_column", "_law_kind"] sc_law_spoilt := ⟨rfl, rfl, rfl, by decide +kernel, rfl, by decide +kernel, by decide +kernel⟩
def sc_law : Scope := { kind := .function, names := [("_law_script", .local), ("_law_k", .local), ("_law_bag_here", .local), ("_law_way", .local), ("_law_places", .local), ("_law_case_here", .local), ("_law_row", .local), ("_law_thing", .local), ("_law_some", .local), ("_law_handed", .local), ("range", .globalImplicit), ("max", .globalImplicit), ("min", .globalImplicit), ("len", .globalImplicit), ("_law_bag", .globalImplicit), ("_law_take", .globalImplicit), ("_law_case", .globalImplicit), ("int", .globalImplicit), ("_law_spoilt", .globalImplicit), ("_law_good", .globalImplicit), ("is_case", .globalImplicit), ("all", .globalImplicit)], isGenerator := false, isCoroutine := false, more := [("fast", .str "_law_script"), ("fast", .str "_law_k"), ("fast", .str "_law_bag_here"), ("fast", .str "_law_way"), ("fast", .str "_law_places"), ("fast", .str "_law_case_here"), ("fast", .str "_law_row"), ("fast", .str "_law_thing"), ("fast", .str "_law_some"), ("fast", .str "_law_handed")] }
theorem esc_law : defScope s_law = sc_law := by kernel_rfl
theorem fs_law : FnScope N_law ["_law_script"] sc_law := ⟨rfl, rfl, rfl, by decide +kernel, rfl, by decide +kernel, by decide +kernel⟩
structure WF (mg : Str → Option Value) : Prop where
  co_BLANK : ∃ t, mg "BLANK" = some (.str " " t)
  co_LEAST_SIZE : ∃ t, mg "LEAST_SIZE" = some (.int 2 t)
  co_LETTERS : ∃ t, mg "LETTERS" = some (.str "abcdefghijklmnopqrstuvwxyz" t)
  co_MOST_LETTERS : ∃ t, mg "MOST_LETTERS" = some (.int 3 t)
  co_MOST_SIZE : ∃ t, mg "MOST_SIZE" = some (.int 15 t)
  co_MOST_UNITS : ∃ t, mg "MOST_UNITS" = some (.int 30 t)
  fr_abs : mg "abs" = none
  fr_all : mg "all" = none
  fr_any : mg "any" = none
  fr_bool : mg "bool" = none
  fr_int : mg "int" = none
  fr_isinstance : mg "isinstance" = none
  fr_len : mg "len" = none
  fr_list : mg "list" = none
  fr_max : mg "max" = none
  fr_min : mg "min" = none
  fr_range : mg "range" = none
  fr_set : mg "set" = none
  fr_str : mg "str" = none
  fr_tuple : mg "tuple" = none
  fr_zip : mg "zip" = none
section
variable {P : Program} {w : World} {K : PySem.W.Frag} {mg : Str → Option Value} {base : Heap}
theorem ok_is_whole {cn : Bool} (Wf : WF mg)  : SVs ⟨P, w, K, mg, base, N_is_whole, sc_is_whole, fun _ => true, 0, true, none, cn, true, none⟩ (defBody s_is_whole) g_is_whole :=
  svs_one (sv_ret (ev_and (ev_isi (uv_var 0) Wf.fr_isinstance Wf.fr_int bty_int) (ev_one (ev_not ((ev_isi (uv_var 0) Wf.fr_isinstance Wf.fr_bool bty_bool).u)))))
theorem ok_is_from {cn : Bool} (Wf : WF mg) (F_is_whole : ∀ cn, FnD P w K mg base cn 1 "is_whole" 1 sem_is_whole) : SVs ⟨P, w, K, mg, base, N_is_from, sc_is_from, fun _ => true, 1, true, none, cn, true, none⟩ (defBody s_is_from) g_is_from :=
  svs_one (sv_ret (ev_and (ev_call (F_is_whole _) (avn_cons (ev_var 0) avn_nil)) (ev_one (ev_chain cr_le cr_le (uv_var 1) (uv_var 0) (uv_var 2)))))
theorem ok_is_name {cn : Bool} (Wf : WF mg)  : SVs ⟨P, w, K, mg, base, N_is_name, sc_is_name, fun _ => true, 0, true, none, cn, true, none⟩ (defBody s_is_name) g_is_name :=
  svs_cons (sv_if ((wv_or (tv_not (tv_truth ((ev_isi (uv_var 0) Wf.fr_isinstance Wf.fr_str bty_str).u))) (wv_or1 (tv_not (tv_chain cr_le cr_le (ev_int).u ((ev_bf bf_len Wf.fr_len (ua_cons (uv_var 0) ua_nil)).u) ((ev_gintW Wf.co_MOST_LETTERS).u))))).t) (svs_one (sv_ret ev_bl)) svs_nil)
    (svs_one (sv_ret (ev_bf bf_all Wf.fr_all (ua_cons ((ev_lc (own := [("sign", 1)]) (iv_uv (uv_var 0)) (gv_name 1) tvs_nil (ev_cmp cr_in (uv_var 1) ((ev_gstrW Wf.co_LETTERS).u))).u) ua_nil))))
theorem ok_is_cell {cn : Bool} (Wf : WF mg) (F_is_from : ∀ cn, FnD P w K mg base cn 2 "is_from" 3 sem_is_from) (F_is_name : ∀ cn, FnD P w K mg base cn 1 "is_name" 1 sem_is_name) : SVs ⟨P, w, K, mg, base, N_is_cell, sc_is_cell, fun _ => true, 2, true, none, cn, true, none⟩ (defBody s_is_cell) g_is_cell :=
  svs_cons (sv_if ((wv_or (tv_not (tv_truth ((ev_isi (uv_var 0) Wf.fr_isinstance Wf.fr_tuple bty_tuple).u))) (wv_or (tv_cmp cr_ne ((ev_bf bf_len Wf.fr_len (ua_cons (uv_var 0) ua_nil)).u) (ev_int).u) (wv_or1 (tv_not (tv_truth ((ev_call (F_is_from _) (avn_cons (ev_ix (uv_var 0) (ev_int).u) (avn_cons (ev_neg (ev_int).u) (avn_cons ev_int avn_nil)))).u)))))).t) (svs_one (sv_ret ev_bl)) svs_nil)
    (svs_cons (sv_if (tv_not (tv_truth ((ev_isi ((ev_ix (uv_var 0) (ev_int).u).u) Wf.fr_isinstance Wf.fr_str bty_str).u))) (svs_one (sv_ret ev_bl)) svs_nil)
    (svs_one (sv_ret (ev_or (ev_call (F_is_name _) (avn_cons (ev_ix (uv_var 0) (ev_int).u) avn_nil)) (ev_one (ev_and (ev_cmp cr_eq ((ev_ix (uv_var 0) (ev_int).u).u) ((ev_gstrW Wf.co_BLANK).u)) (ev_one (ev_cmp cr_eq ((ev_ix (uv_var 0) (ev_int).u).u) (ev_int).u))))))))
theorem ok_is_shape {cn : Bool} (Wf : WF mg)  : SVs ⟨P, w, K, mg, base, N_is_shape, sc_is_shape, fun _ => true, 0, true, none, cn, true, none⟩ (defBody s_is_shape) g_is_shape :=
  svs_cons (sv_if ((wv_or (tv_not (tv_truth ((ev_isi (uv_var 0) Wf.fr_isinstance Wf.fr_tuple bty_tuple).u))) (wv_or1 (tv_cmp cr_ne ((ev_bf bf_len Wf.fr_len (ua_cons (uv_var 0) ua_nil)).u) (ev_int).u))).t) (svs_one (sv_ret ev_bl)) svs_nil)
    (svs_cons (sv_asgG (gv_tup (gvs_cons (gv_name 1) (gvs_cons (gv_name 2) gvs_nil))) (ev_var 0))
    (svs_cons (sv_if ((wv_or (tv_not (tv_truth ((ev_isi (uv_var 1) Wf.fr_isinstance Wf.fr_tuple bty_tuple).u))) (wv_or (tv_not (tv_truth ((ev_isi (uv_var 2) Wf.fr_isinstance Wf.fr_tuple bty_tuple).u))) (wv_or1 (tv_cmp cr_ne ((ev_bf bf_len Wf.fr_len (ua_cons (uv_var 1) ua_nil)).u) ((ev_bf bf_len Wf.fr_len (ua_cons (uv_var 2) ua_nil)).u))))).t) (svs_one (sv_ret ev_bl)) svs_nil)
    (svs_cons (sv_if ((wv_or (tv_not (tv_chain cr_le cr_le ((ev_gintW Wf.co_LEAST_SIZE).u) ((ev_bf bf_len Wf.fr_len (ua_cons (uv_var 1) ua_nil)).u) ((ev_gintW Wf.co_MOST_SIZE).u))) (wv_or1 (tv_not (tv_truth ((ev_bf bf_all Wf.fr_all (ua_cons ((ev_lc (own := [("row", 4)]) (iv_uv (uv_var 2)) (gv_name 4) tvs_nil (ev_isi (uv_var 4) Wf.fr_isinstance Wf.fr_tuple bty_tuple)).u) ua_nil)).u))))).t) (svs_one (sv_ret ev_bl)) svs_nil)
    (svs_cons (sv_asg 3 (ev_bf bf_len Wf.fr_len (ua_cons ((ev_ix (uv_var 2) (ev_int).u).u) ua_nil)))
    (svs_one (sv_ret (ev_and (ev_chain cr_le cr_le ((ev_gintW Wf.co_LEAST_SIZE).u) (uv_var 3) ((ev_gintW Wf.co_MOST_SIZE).u)) (ev_one (ev_bf bf_all Wf.fr_all (ua_cons ((ev_lc (own := [("row", 4)]) (iv_uv (uv_var 2)) (gv_name 4) tvs_nil (ev_cmp cr_eq ((ev_bf bf_len Wf.fr_len (ua_cons (uv_var 4) ua_nil)).u) (uv_var 3))).u) ua_nil))))))))))
theorem ok_is_case {cn : Bool} (Wf : WF mg) (F_is_cell : ∀ cn, FnD P w K mg base cn 3 "is_cell" 1 sem_is_cell) (F_is_from : ∀ cn, FnD P w K mg base cn 2 "is_from" 3 sem_is_from) (F_is_shape : ∀ cn, FnD P w K mg base cn 1 "is_shape" 1 sem_is_shape) : SVs ⟨P, w, K, mg, base, N_is_case, sc_is_case, fun _ => true, 3, true, none, cn, true, none⟩ (defBody s_is_case) g_is_case :=
  svs_cons (sv_if ((wv_or (tv_not (tv_truth ((ev_call (F_is_shape _) (avn_cons (ev_var 0) avn_nil)).u))) (wv_or1 (tv_not (tv_truth ((ev_bf bf_all Wf.fr_all (ua_cons ((ev_lc (own := [("number", 2)]) (iv_uv ((ev_ix (uv_var 0) (ev_int).u).u)) (gv_name 2) tvs_nil (ev_call (F_is_from _) (avn_cons (ev_var 2) (avn_cons ev_int (avn_cons (ev_gintW Wf.co_MOST_UNITS) avn_nil))))).u) ua_nil)).u))))).t) (svs_one (sv_ret ev_bl)) svs_nil)
    (svs_cons (sv_asg 1 (ev_dnew false))
    (svs_cons (sv_for (iv_zipD (dav_cons (ev_ix (uv_var 0) (ev_int).u) (dav_cons (ev_ix (uv_var 0) (ev_int).u) dav_nil)) Wf.fr_zip) (gv_tup (gvs_cons (gv_name 2) (gvs_cons (gv_name 3) gvs_nil)))
    (svs_one (sv_for (iv_ev (ev_var 3)) (gv_name 4)
    (svs_one (sv_if (tv_notN (uv_var 4)) (svs_cons (sv_if ((wv_or (tv_not (tv_truth ((ev_call (F_is_cell _) (avn_cons (ev_var 4) avn_nil)).u))) (wv_or (tv_cmp cr_in ((ev_ix (uv_var 4) (ev_int).u).u) (uv_var 1)) (wv_or1 (tv_cmp cr_eq ((ev_add (uv_var 2) ((ev_ix (uv_var 4) (ev_int).u).u)).u) (ev_int).u)))).t) (svs_one (sv_ret ev_bl)) svs_nil)
    (svs_one (sv_set 1 ev_bl ((ev_ix (uv_var 4) (ev_int).u).u)))) svs_nil)))))
    (svs_one (sv_ret (ev_cmp cr_in ((ev_gstrW Wf.co_BLANK).u) (uv_var 1))))))
theorem ok_vet_case {cn : Bool} (Wf : WF mg) (F_is_case : ∀ cn, FnD P w K mg base cn 4 "is_case" 1 sem_is_case) (E_NoCase : ExcP K mg "NoCase") : SVs ⟨P, w, K, mg, base, N_vet_case, sc_vet_case, fun _ => true, 4, true, none, cn, true, none⟩ (defBody s_vet_case) g_vet_case :=
  svs_cons (sv_if (tv_not (tv_truth ((ev_call (F_is_case _) (avn_cons (ev_var 0) avn_nil)).u))) (svs_one (sv_raise E_NoCase)) svs_nil)
    (svs_one (sv_ret ev_bl))
theorem ok_law_cell {cn : Bool} (Wf : WF mg)  : SVs ⟨P, w, K, mg, base, N_law_cell, sc_law_cell, fun _ => true, 0, true, none, cn, true, none⟩ (defBody s_law_cell) g_law_cell :=
  svs_cons (sv_if (tv_cmp cr_lt (uv_var 1) ((ev_scrLen 0 Wf.fr_len).u)) (svs_one (sv_ret (ev_scrIx 0 (uv_var 1)))) svs_nil)
    (svs_one (sv_ret ev_int))
theorem ok_law_bag {cn : Bool} (Wf : WF mg) (F_law_cell : ∀ cn, FnD P w K mg base cn 1 "_law_cell" 2 sem_law_cell) : SVs ⟨P, w, K, mg, base, N_law_bag, sc_law_bag, fun _ => true, 1, true, none, cn, true, none⟩ (defBody s_law_bag) g_law_bag :=
  svs_cons (sv_asg 2 (ev_mod ((ev_bf bf_abs Wf.fr_abs (ua_cons ((ev_call (F_law_cell _) (avn_cons (ev_var 0) (avn_cons (ev_var 1) avn_nil))).u) ua_nil)).u) ((ev_mul ((ev_mul ((ev_pow (ev_int).u (ev_int).u).u) ((ev_pow (ev_int).u (ev_int).u).u)).u) ((ev_pow (ev_int).u (ev_int).u).u)).u)))
    (svs_cons (sv_if (tv_cmp cr_ge (uv_var 2) ((ev_pow (ev_int).u (ev_int).u).u)) (svs_one (sv_ret (ev_list (av_cons (ev_var 2) (av_cons ev_int av_nil))))) svs_nil)
    (svs_cons (sv_asg 3 (ev_mod ((ev_add ((ev_add (uv_var 2) ((ev_mul (ev_int).u (uv_var 1)).u)).u) (ev_int).u).u) (ev_int).u))
    (svs_cons (sv_for (iv_range1 (ua_cons ((ev_bf bf_min2 Wf.fr_min (ua_cons ((ev_scrLen 0 Wf.fr_len).u) (ua_cons (ev_int).u ua_nil))).u) ua_nil) Wf.fr_range) (gv_name 4)
    (svs_one (sv_asg 3 (ev_mod ((ev_add ((ev_add ((ev_pow (uv_var 3) (ev_int).u).u) ((ev_mod ((ev_scrIx 0 (uv_var 4)).u) (ev_int).u).u)).u) ((ev_mul (ev_int).u (uv_var 4)).u)).u) (ev_int).u))))
    (svs_one (sv_ret (ev_list (av_cons (ev_var 3) (av_cons ev_int av_nil))))))))
theorem ok_law_take {cn : Bool} (Wf : WF mg)  : SVs ⟨P, w, K, mg, base, N_law_take, sc_law_take, fun _ => true, 0, true, none, cn, true, none⟩ (defBody s_law_take) g_law_take :=
  svs_cons (sv_if (tv_cmp cr_eq ((ev_celIx 0 (ev_int).u).u) (ev_int).u) (svs_cons (sv_asg 2 (ev_mod ((ev_celIx 0 (ev_int).u).u) (uv_var 1)))
    (svs_cons (sv_setC 0 (ev_div ((ev_celIx 0 (ev_int).u).u) (uv_var 1)) (ev_int).u)
    (svs_one (sv_retV 2)))) svs_nil)
    (svs_cons (sv_setC 0 (ev_mod ((ev_add ((ev_add ((ev_pow ((ev_celIx 0 (ev_int).u).u) (ev_int).u).u) ((ev_mul (ev_int).u ((ev_celIx 0 (ev_int).u).u)).u)).u) (ev_int).u).u) (ev_int).u) (ev_int).u)
    (svs_cons (sv_setC 0 (ev_add ((ev_celIx 0 (ev_int).u).u) (ev_int).u) (ev_int).u)
    (svs_one (sv_ret (ev_mod ((ev_div ((ev_mod ((ev_mul ((ev_celIx 0 (ev_int).u).u) (ev_int).u).u) (ev_int).u).u) (ev_int).u).u) (uv_var 1))))))
theorem ok_law_name {cn : Bool} (Wf : WF mg) (F_law_take : ∀ cn, FnD P w K mg base cn 1 "_law_take" 2 sem_law_take) : SVs ⟨P, w, K, mg, base, N_law_name, sc_law_name, fun _ => true, 1, true, none, cn, true, none⟩ (defBody s_law_name) g_law_name :=
  svs_cons (sv_asg 2 ev_str)
    (svs_cons (sv_for (iv_range1 (ua_cons ((ev_ix ((ev_list (av_cons ev_int (av_cons ev_int (av_cons ev_int (av_cons ev_int av_nil))))).u) ((ev_call (F_law_take _) (avn_cons (ev_var 0) (avn_cons ev_int avn_nil))).u)).u) ua_nil) Wf.fr_range) (gv_name 3)
    (svs_one (sv_asg 2 (ev_add (uv_var 2) ((ev_ix (uv_var 1) ((ev_call (F_law_take _) (avn_cons (ev_var 0) (avn_cons (ev_bf bf_len Wf.fr_len (ua_cons (uv_var 1) ua_nil)) avn_nil))).u)).u)))))
    (svs_one (sv_retV 2)))
theorem ok_law_case {cn : Bool} (Wf : WF mg) (F_law_name : ∀ cn, FnD P w K mg base cn 2 "_law_name" 2 sem_law_name) (F_law_take : ∀ cn, FnD P w K mg base cn 1 "_law_take" 2 sem_law_take) : SVs ⟨P, w, K, mg, base, N_law_case, sc_law_case, fun _ => true, 2, true, none, cn, true, none⟩ (defBody s_law_case) g_law_case :=
  svs_cons (sv_asg 2 (ev_add (ev_int).u ((ev_call (F_law_take _) (avn_cons (ev_var 0) (avn_cons (ev_ix ((ev_list (av_cons ev_int (av_cons ev_int av_nil))).u) (uv_var 1)) avn_nil))).u)))
    (svs_cons (sv_asg 3 (ev_add (ev_int).u ((ev_call (F_law_take _) (avn_cons (ev_var 0) (avn_cons (ev_ix ((ev_list (av_cons ev_int (av_cons ev_int av_nil))).u) (uv_var 1)) avn_nil))).u)))
    (svs_cons (sv_asg 4 ev_str)
    (svs_cons (sv_asg 5 (ev_call (F_law_take _) (avn_cons (ev_var 0) (avn_cons ev_int avn_nil))))
    (svs_cons (sv_asg 4 (ev_add ((ev_sl (uv_var 4) (pt_some (uv_var 5)) pt_none).u) ((ev_sl (uv_var 4) pt_none (pt_some (uv_var 5))).u)))
    (svs_cons (sv_asg 4 (ev_sl (uv_var 4) pt_none (pt_some ((ev_ix ((ev_list (av_cons ev_int (av_cons ev_int (av_cons ev_int (av_cons ev_int av_nil))))).u) ((ev_call (F_law_take _) (avn_cons (ev_var 0) (avn_cons ev_int avn_nil))).u)).u))))
    (svs_cons (sv_asgLc 6 (own := [("_law_row", 14)]) (iv_range1 (ua_cons (uv_var 3) ua_nil) Wf.fr_range) (gv_name 14) tvs_nil (ev_add (ev_int).u ((ev_call (F_law_take _) (avn_cons (ev_var 0) (avn_cons ev_int avn_nil))).u)))
    (svs_cons (sv_asgLc2 7 (own := [("_law_row", 14)]) (iv_range1 (ua_cons (uv_var 3) ua_nil) Wf.fr_range) (gv_name 14) tvs_nil (ev_mul ((ev_list (av_cons ev_non av_nil)).u) (uv_var 2)))
    (svs_cons (sv_asg 8 (ev_call (F_law_take _) (avn_cons (ev_var 0) (avn_cons (ev_mul (uv_var 2) (uv_var 3)) avn_nil))))
    (svs_cons (sv_set2 7 (ev_tup (av_cons ev_str (av_cons ev_int av_nil))) ((ev_div (uv_var 8) (uv_var 2)).u) ((ev_mod (uv_var 8) (uv_var 2)).u))
    (svs_cons (sv_asg 9 (ev_list av_nil))
    (svs_cons (sv_for (iv_range1 (ua_cons ((ev_add (ev_int).u ((ev_call (F_law_take _) (avn_cons (ev_var 0) (avn_cons (ev_ix ((ev_list (av_cons ev_int (av_cons ev_int av_nil))).u) (uv_var 1)) avn_nil))).u)).u) ua_nil) Wf.fr_range) (gv_name 10)
    (svs_cons (sv_asg 11 (ev_call (F_law_take _) (avn_cons (ev_var 0) (avn_cons (ev_mul (uv_var 2) (uv_var 3)) avn_nil))))
    (svs_cons (sv_asg 12 (ev_call (F_law_name _) (avn_cons (ev_var 0) (avn_cons (ev_var 4) avn_nil))))
    (svs_cons (sv_asg 13 (ev_ix ((ev_list (av_cons ev_int (av_cons ev_int (av_cons ev_int (av_cons (ev_neg (ev_int).u) av_nil))))).u) ((ev_call (F_law_take _) (avn_cons (ev_var 0) (avn_cons ev_int avn_nil))).u)))
    (svs_cons (sv_asg 14 (ev_div (uv_var 11) (uv_var 2)))
    (svs_one (sv_if ((wv_and (tv_isN ((ev_ix (uv_ix2 7 (uv_var 14)) ((ev_mod (uv_var 11) (uv_var 2)).u)).u)) (wv_and (tv_cmp cr_notIn (uv_var 12) (uv_var 9)) (wv_and1 (tv_cmp cr_gt ((ev_add ((ev_ix (uv_var 6) (uv_var 14)).u) (uv_var 13)).u) (ev_int).u)))).t) (svs_cons (sv_set2 7 (ev_tup (av_cons (ev_var 12) (av_cons (ev_var 13) av_nil))) (uv_var 14) ((ev_mod (uv_var 11) (uv_var 2)).u))
    (svs_one (sv_lm 9 lm_append (av_cons (ev_var 12) av_nil)))) svs_nil)))))))
    (svs_fz 7 (svs_one (sv_ret (ev_tup (av_cons (ev_bt bt_tuple Wf.fr_tuple (ua_cons (uv_var 6) ua_nil)) (av_cons (ev_bt bt_tuple Wf.fr_tuple (ua_cons ((ev_lc (own := [("_law_row", 14)]) (iv_uv (uv_var 7)) (gv_name 14) tvs_nil (ev_bt bt_tuple Wf.fr_tuple (ua_cons (uv_var 14) ua_nil))).u) ua_nil)) av_nil)))))))))))))))))
theorem ok_law_whole {cn : Bool} (Wf : WF mg)  : SVs ⟨P, w, K, mg, base, N_law_whole, sc_law_whole, fun _ => true, 0, true, none, cn, true, none⟩ (defBody s_law_whole) g_law_whole :=
  svs_one (sv_ret (ev_and (ev_isi (uv_var 0) Wf.fr_isinstance Wf.fr_int bty_int) (ev_and (ev_not ((ev_isi (uv_var 0) Wf.fr_isinstance Wf.fr_bool bty_bool).u)) (ev_one (ev_chain cr_le cr_le (uv_var 1) (uv_var 0) (uv_var 2))))))
theorem ok_law_is_name {cn : Bool} (Wf : WF mg)  : SVs ⟨P, w, K, mg, base, N_law_is_name, sc_law_is_name, fun _ => true, 0, true, none, cn, true, none⟩ (defBody s_law_is_name) g_law_is_name :=
  svs_cons (sv_if ((wv_or (tv_not (tv_truth ((ev_isi (uv_var 0) Wf.fr_isinstance Wf.fr_str bty_str).u))) (wv_or1 (tv_not (tv_chain cr_le cr_le (ev_int).u ((ev_bf bf_len Wf.fr_len (ua_cons (uv_var 0) ua_nil)).u) (ev_int).u)))).t) (svs_one (sv_ret ev_bl)) svs_nil)
    (svs_one (sv_ret (ev_not ((ev_bf bf_any Wf.fr_any (ua_cons ((ev_lc (own := [("_law_sign", 1)]) (iv_uv (uv_var 0)) (gv_name 1) tvs_nil (ev_cmp cr_notIn (uv_var 1) (ev_str).u)).u) ua_nil)).u))))
theorem ok_law_cell_good {cn : Bool} (Wf : WF mg) (F_law_is_name : ∀ cn, FnD P w K mg base cn 1 "_law_is_name" 1 sem_law_is_name) (F_law_whole : ∀ cn, FnD P w K mg base cn 1 "_law_whole" 3 sem_law_whole) : SVs ⟨P, w, K, mg, base, N_law_cell_good, sc_law_cell_good, fun _ => true, 1, true, none, cn, true, none⟩ (defBody s_law_cell_good) g_law_cell_good :=
  svs_cons (sv_if ((wv_or (tv_not (tv_truth ((ev_isi (uv_var 0) Wf.fr_isinstance Wf.fr_tuple bty_tuple).u))) (wv_or (tv_cmp cr_ne ((ev_bf bf_len Wf.fr_len (ua_cons (uv_var 0) ua_nil)).u) (ev_int).u) (wv_or1 (tv_not (tv_truth ((ev_call (F_law_whole _) (avn_cons (ev_ix (uv_var 0) (ev_int).u) (avn_cons (ev_neg (ev_int).u) (avn_cons ev_int avn_nil)))).u)))))).t) (svs_one (sv_ret ev_bl)) svs_nil)
    (svs_cons (sv_if ((wv_and (tv_truth ((ev_isi ((ev_ix (uv_var 0) (ev_int).u).u) Wf.fr_isinstance Wf.fr_str bty_str).u)) (wv_and1 (tv_cmp cr_eq ((ev_ix (uv_var 0) (ev_int).u).u) (ev_str).u))).t) (svs_one (sv_ret (ev_cmp cr_eq ((ev_ix (uv_var 0) (ev_int).u).u) (ev_int).u))) svs_nil)
    (svs_one (sv_ret (ev_and (ev_call (F_law_is_name _) (avn_cons (ev_ix (uv_var 0) (ev_int).u) avn_nil)) (ev_one (ev_cmp cr_ne ((ev_add (uv_var 1) ((ev_ix (uv_var 0) (ev_int).u).u)).u) (ev_int).u))))))
theorem ok_law_is_case {cn : Bool} (Wf : WF mg) (F_law_cell_good : ∀ cn, FnD P w K mg base cn 2 "_law_cell_good" 2 sem_law_cell_good) (F_law_whole : ∀ cn, FnD P w K mg base cn 1 "_law_whole" 3 sem_law_whole) : SVs ⟨P, w, K, mg, base, N_law_is_case, sc_law_is_case, fun _ => true, 2, true, none, cn, true, none⟩ (defBody s_law_is_case) g_law_is_case :=
  svs_cons (sv_if ((wv_or (tv_not (tv_truth ((ev_isi (uv_var 0) Wf.fr_isinstance Wf.fr_tuple bty_tuple).u))) (wv_or1 (tv_cmp cr_ne ((ev_bf bf_len Wf.fr_len (ua_cons (uv_var 0) ua_nil)).u) (ev_int).u))).t) (svs_one (sv_ret ev_bl)) svs_nil)
    (svs_cons (sv_if ((wv_or (tv_not (tv_truth ((ev_isi ((ev_ix (uv_var 0) (ev_int).u).u) Wf.fr_isinstance Wf.fr_tuple bty_tuple).u))) (wv_or (tv_not (tv_truth ((ev_isi ((ev_ix (uv_var 0) (ev_int).u).u) Wf.fr_isinstance Wf.fr_tuple bty_tuple).u))) (wv_or1 (tv_cmp cr_ne ((ev_bf bf_len Wf.fr_len (ua_cons ((ev_ix (uv_var 0) (ev_int).u).u) ua_nil)).u) ((ev_bf bf_len Wf.fr_len (ua_cons ((ev_ix (uv_var 0) (ev_int).u).u) ua_nil)).u))))).t) (svs_one (sv_ret ev_bl)) svs_nil)
    (svs_cons (sv_if ((wv_or (tv_not (tv_chain cr_le cr_le (ev_int).u ((ev_bf bf_len Wf.fr_len (ua_cons ((ev_ix (uv_var 0) (ev_int).u).u) ua_nil)).u) (ev_int).u)) (wv_or1 (tv_not (tv_truth ((ev_bf bf_all Wf.fr_all (ua_cons ((ev_lc (own := [("_law_number", 4)]) (iv_uv ((ev_ix (uv_var 0) (ev_int).u).u)) (gv_name 4) tvs_nil (ev_call (F_law_whole _) (avn_cons (ev_var 4) (avn_cons ev_int (avn_cons ev_int avn_nil))))).u) ua_nil)).u))))).t) (svs_one (sv_ret ev_bl)) svs_nil)
    (svs_cons (sv_if ((wv_or (tv_not (tv_truth ((ev_bf bf_all Wf.fr_all (ua_cons ((ev_lc (own := [("_law_row", 3)]) (iv_uv ((ev_ix (uv_var 0) (ev_int).u).u)) (gv_name 3) tvs_nil (ev_isi (uv_var 3) Wf.fr_isinstance Wf.fr_tuple bty_tuple)).u) ua_nil)).u))) (wv_or1 (tv_not (tv_chain cr_le cr_le (ev_int).u ((ev_bf bf_len Wf.fr_len (ua_cons ((ev_ix ((ev_ix (uv_var 0) (ev_int).u).u) (ev_int).u).u) ua_nil)).u) (ev_int).u)))).t) (svs_one (sv_ret ev_bl)) svs_nil)
    (svs_cons (sv_asg 1 (ev_list av_nil))
    (svs_cons (sv_for (iv_zipD (dav_cons (ev_ix (uv_var 0) (ev_int).u) (dav_cons (ev_ix (uv_var 0) (ev_int).u) dav_nil)) Wf.fr_zip) (gv_tup (gvs_cons (gv_name 2) (gvs_cons (gv_name 3) gvs_nil)))
    (svs_cons (sv_if (tv_cmp cr_ne ((ev_bf bf_len Wf.fr_len (ua_cons (uv_var 3) ua_nil)).u) ((ev_bf bf_len Wf.fr_len (ua_cons ((ev_ix ((ev_ix (uv_var 0) (ev_int).u).u) (ev_int).u).u) ua_nil)).u)) (svs_one (sv_ret ev_bl)) svs_nil)
    (svs_cons (sv_if (tv_not (tv_truth ((ev_bf bf_all Wf.fr_all (ua_cons ((ev_lc (own := [("_law_cell_here", 5)]) (iv_uv (uv_var 3)) (gv_name 5) tvs_nil (ev_or (ev_isN (uv_var 5)) (ev_one (ev_call (F_law_cell_good _) (avn_cons (ev_var 5) (avn_cons (ev_var 2) avn_nil)))))).u) ua_nil)).u))) (svs_one (sv_ret ev_bl)) svs_nil)
    (svs_one (sv_asg 1 (ev_add (uv_var 1) ((ev_lc (own := [("_law_cell_here", 5)]) (iv_uv (uv_var 3)) (gv_name 5) (tvs_one (tv_notN (uv_var 5))) (ev_ix (uv_var 5) (ev_int).u)).u)))))))
    (svs_one (sv_ret (ev_and (ev_cmp cr_eq ((ev_countSet (uv_var 1) Wf.fr_len Wf.fr_set).u) ((ev_bf bf_len Wf.fr_len (ua_cons (uv_var 1) ua_nil)).u)) (ev_one (ev_cmp cr_in (ev_str).u (uv_var 1)))))))))))
theorem ok_law_vetted {cn : Bool} (Wf : WF mg) (F_vet_case : ∀ cn, FnD P w K mg base cn 5 "vet_case" 1 sem_vet_case) (M_NoCase : ExmF K mg "NoCase") (A_exc : ExcAllF K) (I_CastError : IsxF K mg "CastError") (I_Loose : IsxF K mg "Loose") (I_NoEnd : IsxF K mg "NoEnd") (I_NoHoles : IsxF K mg "NoHoles") (I_NoLayout : IsxF K mg "NoLayout") (I_NoLine : IsxF K mg "NoLine") (I_NoLines : IsxF K mg "NoLines") (I_NoMold : IsxF K mg "NoMold") (I_NoName : IsxF K mg "NoName") (I_NoPaper : IsxF K mg "NoPaper") (I_NoRow : IsxF K mg "NoRow") (I_NoStep : IsxF K mg "NoStep") (I_NoText : IsxF K mg "NoText") (I_Tight : IsxF K mg "Tight") (I_TooMany : IsxF K mg "TooMany") (I_ValueError : IsxF K mg "ValueError") : SVs ⟨P, w, K, mg, base, N_law_vetted, sc_law_vetted, fun _ => true, 5, true, none, cn, true, none⟩ (defBody s_law_vetted) g_law_vetted :=
  svs_one (sv_tryAs 1 (svs_one (sv_ret (ev_cmp cr_isB ((ev_call (F_vet_case _) (avn_cons (ev_var 0) avn_nil)).u) (ev_bl).u))) M_NoCase (fun hx => svs_cons (sv_asg 2 (ev_isXs (hx := hx) 1 A_exc (ClsL.cons I_NoHoles rfl (by decide) (fun _ => rfl) (ClsL.cons I_NoName rfl (by decide) (fun _ => rfl) (ClsL.cons I_NoLayout rfl (by decide) (fun _ => rfl) (ClsL.cons I_Tight rfl (by decide) (fun _ => rfl) (ClsL.cons I_Loose rfl (by decide) (fun _ => rfl) (ClsL.cons I_NoLines rfl (by decide) (fun _ => rfl) (ClsL.cons I_TooMany rfl (by decide) (fun _ => rfl) (ClsL.cons I_NoEnd rfl (by decide) (fun _ => rfl) (ClsL.cons I_NoMold rfl (by decide) (fun _ => rfl) (ClsL.cons I_NoLine rfl (by decide) (fun _ => rfl) ClsL.nil)))))))))) rfl Wf.fr_isinstance))
    (svs_cons (sv_if ((wv_or (tv_truth (uv_var 2)) (wv_or (tv_truth ((ev_isXs (hx := hx) 1 A_exc (ClsL.cons I_NoPaper rfl (by decide) (fun _ => rfl) (ClsL.cons I_NoText rfl (by decide) (fun _ => rfl) (ClsL.cons I_NoRow rfl (by decide) (fun _ => rfl) (ClsL.cons I_NoStep rfl (by decide) (fun _ => rfl) ClsL.nil)))) rfl Wf.fr_isinstance).u)) (wv_or1 (tv_not (tv_truth ((ev_isX (hx := hx) 1 A_exc I_ValueError rfl Wf.fr_isinstance).u)))))).t) (svs_one (sv_ret ev_str)) svs_nil)
    (svs_one (sv_ret (ev_if (tv_truth ((ev_isX (hx := hx) 1 A_exc I_CastError rfl Wf.fr_isinstance).u)) ev_str ev_str))))))
theorem ok_law_good {cn : Bool} (Wf : WF mg) (F_law_is_case : ∀ cn, FnD P w K mg base cn 3 "_law_is_case" 1 sem_law_is_case) (F_law_vetted : ∀ cn, FnD P w K mg base cn 6 "_law_vetted" 1 sem_law_vetted) (F_is_case : ∀ cn, FnD P w K mg base cn 4 "is_case" 1 sem_is_case) : SVs ⟨P, w, K, mg, base, N_law_good, sc_law_good, fun _ => true, 6, true, none, cn, true, none⟩ (defBody s_law_good) g_law_good :=
  svs_cons (sv_asg 1 (ev_call (F_law_is_case _) (avn_cons (ev_var 0) avn_nil)))
    (svs_cons (sv_asg 2 (ev_call (F_is_case _) (avn_cons (ev_var 0) avn_nil)))
    (svs_cons (sv_if ((wv_or (tv_not (tv_truth ((ev_isi (uv_var 2) Wf.fr_isinstance Wf.fr_bool bty_bool).u))) (wv_or1 (tv_cmp cr_ne (uv_var 2) (uv_var 1)))).t) (svs_one (sv_ret ev_bl)) svs_nil)
    (svs_one (sv_ret (ev_cmp cr_eq ((ev_call (F_law_vetted _) (avn_cons (ev_var 0) avn_nil)).u) ((ev_if (tv_truth (uv_var 1)) ev_bl ev_str).u))))))
theorem ok_law_odd_cell {cn : Bool} (Wf : WF mg)  : SVs ⟨P, w, K, mg, base, N_law_odd_cell, sc_law_odd_cell, fun _ => true, 0, true, none, cn, true, none⟩ (defBody s_law_odd_cell) g_law_odd_cell :=
  svs_cons (sv_asg 2 (ev_list (av_cons (ev_tup (av_cons ev_str (av_cons ev_int av_nil))) (av_cons (ev_tup (av_cons ev_str (av_cons (ev_neg (ev_int).u) av_nil))) (av_cons (ev_tup (av_cons ev_str (av_cons ev_bl av_nil))) (av_cons (ev_tup (av_cons ev_str (av_cons ev_non av_nil))) (av_cons (ev_tup (av_cons ev_str (av_cons ev_int av_nil))) (av_cons (ev_tup (av_cons ev_str (av_cons ev_int av_nil))) (av_cons (ev_tup (av_cons ev_str (av_cons ev_int av_nil))) (av_cons (ev_tup (av_cons ev_str (av_cons ev_int av_nil))) (av_cons (ev_tup (av_cons ev_str (av_cons ev_int av_nil))) av_nil)))))))))))
    (svs_cons (sv_asg 2 (ev_add (uv_var 2) ((ev_list (av_cons (ev_tup (av_cons ev_str (av_cons ev_int av_nil))) (av_cons (ev_tup (av_cons ev_non (av_cons ev_int av_nil))) (av_cons (ev_tup (av_cons ev_int (av_cons ev_int av_nil))) (av_cons (ev_tup (av_cons (ev_tup (av_cons ev_str av_nil)) (av_cons ev_int av_nil))) (av_cons (ev_tup (av_cons ev_str av_nil)) (av_cons (ev_tup (av_cons ev_str (av_cons ev_int (av_cons ev_int av_nil)))) (av_cons (ev_list (av_cons ev_str (av_cons ev_int av_nil))) (av_cons ev_str (av_cons ev_int (av_cons (ev_tup av_nil) av_nil))))))))))).u)))
    (svs_cons (sv_asg 2 (ev_add (uv_var 2) ((ev_list (av_cons (ev_tup (av_cons ev_str (av_cons ev_str av_nil))) (av_cons (ev_tup (av_cons ev_str (av_cons ev_int av_nil))) av_nil))).u)))
    (svs_one (sv_ret (ev_ix ((ev_add (uv_var 2) ((ev_list (av_cons (ev_tup (av_cons (ev_ix (uv_var 1) (ev_int).u) (av_cons ev_int av_nil))) (av_cons (ev_tup (av_cons (ev_ix (uv_var 1) ((ev_neg (ev_int).u).u)) (av_cons ev_int av_nil))) (av_cons (ev_tup (av_cons ev_str (av_cons ev_bl av_nil))) (av_cons (ev_tup (av_cons (ev_list (av_cons ev_str av_nil)) (av_cons ev_int av_nil))) (av_cons ev_non av_nil)))))).u)).u) (uv_var 0))))))
theorem ok_law_spoilt {cn : Bool} (Wf : WF mg) (F_law_odd_cell : ∀ cn, FnD P w K mg base cn 1 "_law_odd_cell" 2 sem_law_odd_cell) : SVs ⟨P, w, K, mg, base, N_law_spoilt, sc_law_spoilt, fun _ => true, 1, true, none, cn, true, none⟩ (defBody s_law_spoilt) g_law_spoilt :=
  svs_cons (sv_asg 5 (ev_bt bt_list Wf.fr_list (ua_cons ((ev_ix (uv_var 0) (ev_int).u).u) ua_nil)))
    (svs_cons (sv_asgLc2 6 (own := [("_law_one", 8)]) (iv_uv ((ev_ix (uv_var 0) (ev_int).u).u)) (gv_name 8) tvs_nil (ev_bt bt_list Wf.fr_list (ua_cons (uv_var 8) ua_nil)))
    (svs_cons (sv_asg 7 (ev_list av_nil))
    (svs_cons (sv_for (iv_ev (ev_ix (uv_var 0) (ev_int).u)) (gv_name 8)
    (svs_one (sv_asg 7 (ev_add (uv_var 7) ((ev_lc (own := [("_law_cell_here", 11)]) (iv_uv (uv_var 8)) (gv_name 11) (tvs_one (tv_notN (uv_var 11))) (ev_ix (uv_var 11) (ev_int).u)).u)))))
    (svs_cons (sv_if (tv_cmp cr_lt (uv_var 1) (ev_int).u) (svs_fz 7 (svs_one (sv_set2 6 (ev_call (F_law_odd_cell _) (avn_cons (ev_var 4) (avn_cons (ev_var 7) avn_nil))) (uv_var 2) (uv_var 3)))) svs_nil)
    (svs_cons (sv_if (tv_cmp cr_eq (uv_var 1) (ev_int).u) (svs_one (sv_set 5 (ev_ix ((ev_list (av_cons ev_int (av_cons ev_int (av_cons (ev_neg (ev_int).u) (av_cons ev_bl (av_cons ev_non (av_cons ev_str (av_cons (ev_tup (av_cons ev_int av_nil)) (av_cons (ev_list (av_cons ev_int av_nil)) (av_cons ev_int (av_cons ev_int av_nil))))))))))).u) ((ev_mod (uv_var 4) (ev_int).u).u)) (uv_var 2))) svs_nil)
    (svs_cons (sv_if (tv_cmp cr_eq (uv_var 1) (ev_int).u) (svs_one (sv_lm2 6 lm_popAt (uv_var 2) (av_cons (ev_var 3) av_nil))) svs_nil)
    (svs_cons (sv_if (tv_cmp cr_eq (uv_var 1) (ev_int).u) (svs_one (sv_lm2 6 lm_insert (uv_var 2) (av_cons (ev_var 3) (av_cons ev_non av_nil)))) svs_nil)
    (svs_cons (sv_if (tv_cmp cr_eq (uv_var 1) (ev_int).u) (svs_hz 6 (svs_one (sv_lm 6 lm_popAt (av_cons (ev_var 2) av_nil)))) svs_nil)
    (svs_cons (sv_if (tv_cmp cr_eq (uv_var 1) (ev_int).u) (svs_one (sv_lm 5 lm_popAt (av_cons (ev_var 2) av_nil))) svs_nil)
    (svs_fz 6 (svs_cons (sv_asg 9 (ev_list (av_cons (ev_bt bt_tuple Wf.fr_tuple (ua_cons (uv_var 5) ua_nil)) (av_cons (ev_bt bt_tuple Wf.fr_tuple (ua_cons ((ev_lc (own := [("_law_one", 8)]) (iv_uv (uv_var 6)) (gv_name 8) tvs_nil (ev_bt bt_tuple Wf.fr_tuple (ua_cons (uv_var 8) ua_nil))).u) ua_nil)) av_nil))))
    (svs_cons (sv_if (tv_cmp cr_eq (uv_var 1) (ev_int).u) (svs_cons (sv_asg 10 (ev_bt bt_tuple Wf.fr_tuple (ua_cons ((ev_add ((ev_lc (own := [("_law_one", 8)]) (iv_uv ((ev_sl (uv_var 6) pt_none (pt_some ((ev_neg (ev_int).u).u))).u)) (gv_name 8) tvs_nil (ev_bt bt_tuple Wf.fr_tuple (ua_cons (uv_var 8) ua_nil))).u) ((ev_list (av_cons (ev_ix (uv_var 6) ((ev_neg (ev_int).u).u)) av_nil)).u)).u) ua_nil)))
    (svs_one (sv_set 9 (ev_ix ((ev_list (av_cons (ev_var 10) (av_cons (ev_var 6) (av_cons (ev_tup av_nil) (av_cons (ev_add ((ev_ix (uv_var 9) (ev_int).u).u) ((ev_sl ((ev_ix (uv_var 9) (ev_int).u).u) pt_none (pt_some (ev_int).u)).u)) av_nil))))).u) ((ev_mod (uv_var 4) (ev_int).u).u)) (ev_int).u))) svs_nil)
    (svs_cons (sv_if (tv_cmp cr_eq (uv_var 1) (ev_int).u) (svs_fz 5 (svs_one (sv_ret (ev_ix ((ev_list (av_cons (ev_bt bt_tuple Wf.fr_tuple (ua_cons ((ev_sl (uv_var 9) pt_none (pt_some (ev_int).u)).u) ua_nil)) (av_cons (ev_bt bt_list Wf.fr_list (ua_cons (uv_var 9) ua_nil)) (av_cons (ev_bt bt_tuple Wf.fr_tuple (ua_cons ((ev_add (uv_var 9) ((ev_list (av_cons (ev_tup av_nil) av_nil)).u)).u) ua_nil)) (av_cons (ev_tup (av_cons (ev_var 5) (av_cons (ev_ix (uv_var 9) (ev_int).u) av_nil))) (av_cons (ev_revL (uv_var 9)) av_nil)))))).u) ((ev_mod (uv_var 4) (ev_int).u).u))))) svs_nil)
    (svs_one (sv_ret (ev_bt bt_tuple Wf.fr_tuple (ua_cons (uv_var 9) ua_nil)))))))))))))))))
theorem ok_law {cn : Bool} (Wf : WF mg) (F_law_bag : ∀ cn, FnD P w K mg base cn 2 "_law_bag" 2 sem_law_bag) (F_law_case : ∀ cn, FnD P w K mg base cn 3 "_law_case" 2 sem_law_case) (F_law_good : ∀ cn, FnD P w K mg base cn 7 "_law_good" 1 sem_law_good) (F_law_spoilt : ∀ cn, FnD P w K mg base cn 2 "_law_spoilt" 5 sem_law_spoilt) (F_law_take : ∀ cn, FnD P w K mg base cn 1 "_law_take" 2 sem_law_take) (F_is_case : ∀ cn, FnD P w K mg base cn 4 "is_case" 1 sem_is_case) : SVs ⟨P, w, K, mg, base, N_law, sc_law, fun _ => true, 7, true, none, cn, true, none⟩ (defBody s_law) g_law :=
  svs_cons (sv_for (iv_range1 (ua_cons ((ev_bf bf_max2 Wf.fr_max (ua_cons (ev_int).u (ua_cons ((ev_bf bf_min2 Wf.fr_min (ua_cons (ev_int).u (ua_cons ((ev_scrLen 0 Wf.fr_len).u) ua_nil))).u) ua_nil))).u) ua_nil) Wf.fr_range) (gv_name 1)
    (svs_cons (sv_asgC 2 (ev_call (F_law_bag _) (avn_cons (ev_var 0) (avn_cons (ev_var 1) avn_nil))))
    (svs_cons (sv_asg 3 (ev_call (F_law_take _) (avn_cons (ev_var 2) (avn_cons ev_int avn_nil))))
    (svs_cons (sv_asg 4 (ev_list (av_cons (ev_call (F_law_take _) (avn_cons (ev_var 2) (avn_cons ev_int avn_nil))) (av_cons (ev_call (F_law_take _) (avn_cons (ev_var 2) (avn_cons ev_int avn_nil))) (av_cons (ev_call (F_law_take _) (avn_cons (ev_var 2) (avn_cons ev_int avn_nil))) av_nil)))))
    (svs_cons (sv_asg 5 (ev_call (F_law_case _) (avn_cons (ev_var 2) (avn_cons (ev_bt bt_int Wf.fr_int (ua_cons ((ev_cmp cr_eq ((ev_call (F_law_take _) (avn_cons (ev_var 2) (avn_cons ev_int avn_nil))).u) (ev_int).u).u) ua_nil)) avn_nil))))
    (svs_cons (sv_asg 6 (ev_mod ((ev_ix (uv_var 4) (ev_int).u).u) ((ev_bf bf_len Wf.fr_len (ua_cons ((ev_ix (uv_var 5) (ev_int).u).u) ua_nil)).u)))
    (svs_cons (sv_asg 7 (ev_call (F_law_spoilt _) (avn_cons (ev_var 5) (avn_cons (ev_var 3) (avn_cons (ev_var 6) (avn_cons (ev_mod ((ev_ix (uv_var 4) (ev_int).u).u) ((ev_bf bf_len Wf.fr_len (ua_cons ((ev_ix ((ev_ix (uv_var 5) (ev_int).u).u) (ev_int).u).u) ua_nil)).u)) (avn_cons (ev_ix (uv_var 4) (ev_int).u) avn_nil)))))))
    (svs_one (sv_if ((wv_or (tv_not (tv_truth ((ev_call (F_law_good _) (avn_cons (ev_var 7) avn_nil)).u))) (wv_or1 (tv_not (tv_truth ((ev_call (F_law_good _) (avn_cons (ev_var 5) avn_nil)).u))))).t) (svs_one (sv_ret ev_bl)) svs_nil)))))))))
    (svs_cons (sv_asg 8 (ev_list (av_cons ev_non (av_cons ev_bl (av_cons ev_int (av_cons ev_str (av_cons ev_str (av_cons (ev_tup av_nil) (av_cons (ev_list av_nil) (av_cons (ev_tup (av_cons (ev_tup av_nil) (av_cons (ev_tup av_nil) av_nil))) (av_cons (ev_tup (av_cons (ev_tup (av_cons ev_int (av_cons ev_int av_nil))) (av_cons (ev_tup av_nil) av_nil))) (av_cons (ev_tup (av_cons (ev_tup (av_cons ev_int (av_cons ev_int av_nil))) (av_cons (ev_tup (av_cons (ev_tup av_nil) (av_cons (ev_tup av_nil) av_nil))) av_nil))) av_nil))))))))))))
    (svs_cons (sv_asg 8 (ev_add (uv_var 8) ((ev_list (av_cons (ev_tup (av_cons (ev_tup (av_cons ev_int av_nil)) (av_cons (ev_tup (av_cons (ev_tup (av_cons ev_non (av_cons (ev_tup (av_cons ev_str (av_cons ev_int av_nil))) av_nil))) av_nil)) av_nil))) (av_cons (ev_tup (av_cons (ev_tup (av_cons ev_int (av_cons ev_int av_nil))) (av_cons (ev_tup (av_cons (ev_tup (av_cons (ev_tup (av_cons ev_str (av_cons ev_int av_nil))) (av_cons (ev_tup (av_cons ev_str (av_cons ev_int av_nil))) av_nil))) (av_cons (ev_tup (av_cons ev_non (av_cons ev_non av_nil))) av_nil))) av_nil))) av_nil))).u)))
    (svs_cons (sv_lm 8 lm_append (av_cons (ev_tup (av_cons (ev_tup (av_cons ev_int (av_cons ev_int av_nil))) (av_cons (ev_tup (av_cons (ev_tup (av_cons ev_non (av_cons ev_non av_nil))) (av_cons (ev_tup (av_cons ev_non (av_cons ev_non av_nil))) av_nil))) av_nil))) av_nil))
    (svs_cons (sv_asg 9 (ev_list (av_cons (ev_list (av_cons ev_int (av_cons ev_int av_nil))) (av_cons (ev_list (av_cons (ev_list (av_cons (ev_tup (av_cons ev_str (av_cons ev_int av_nil))) (av_cons (ev_tup (av_cons ev_str (av_cons ev_int av_nil))) av_nil))) (av_cons (ev_list (av_cons ev_non (av_cons ev_non av_nil))) av_nil))) av_nil))))
    (svs_cons (sv_if ((wv_or (tv_truth ((ev_bor (ev_call (F_is_case _) (avn_cons (ev_var 9) avn_nil))).u)) (wv_or1 (tv_cmp cr_ne (uv_var 9) ((ev_list (av_cons (ev_list (av_cons ev_int (av_cons ev_int av_nil))) (av_cons (ev_list (av_cons (ev_list (av_cons (ev_tup (av_cons ev_str (av_cons ev_int av_nil))) (av_cons (ev_tup (av_cons ev_str (av_cons ev_int av_nil))) av_nil))) (av_cons (ev_list (av_cons ev_non (av_cons ev_non av_nil))) av_nil))) av_nil))).u)))).t) (svs_one (sv_ret ev_bl)) svs_nil)
    (svs_one (sv_ret (ev_bf bf_all Wf.fr_all (ua_cons ((ev_lc (own := [("_law_thing", 7)]) (iv_uv ((ev_add (uv_var 8) ((ev_list (av_cons (ev_tup (av_cons (ev_tup (av_cons ev_int (av_cons ev_int av_nil))) (av_cons (ev_tup (av_cons (ev_tup (av_cons (ev_tup (av_cons ev_str (av_cons (ev_neg (ev_int).u) av_nil))) (av_cons (ev_tup (av_cons ev_str (av_cons ev_int av_nil))) av_nil))) (av_cons (ev_tup (av_cons ev_non (av_cons ev_non av_nil))) av_nil))) av_nil))) av_nil)).u)).u)) (gv_name 7) tvs_nil (ev_call (F_law_good _) (avn_cons (ev_var 7) avn_nil))).u) ua_nil)))))))))
end
theorem facts {P : Program} {w : World} {K : PySem.W.Frag} {h : Heap} {mg : Str → Option Value} {f : Addr} (X : K.In h) (Gn : h.Ns mainGlobals mg) (hfa : mg ("law" : Str) = some (.ref f)) (c : SaysB faL dfL tsL exL w K) :
    ∃ fd : FuncData, (∀ (s : Shared) (v : Value), BindsTo s fd ⟨[v], []⟩ [("_law_script", v)]) ∧ ∀ base : Heap, FnOk P w K mg base (CXg false P w) 8 f fd ["_law_script"] (spD K mg 1 sem_law) := by
  have Wf : WF mg := ⟨He.str_ok X Gn (c.fact 21 (f := .str "BLANK" " ") rfl), He.int_ok X Gn (c.fact 22 (f := .int "LEAST_SIZE" 2) rfl), He.str_ok X Gn (c.fact 23 (f := .str "LETTERS" "abcdefghijklmnopqrstuvwxyz") rfl), He.int_ok X Gn (c.fact 24 (f := .int "MOST_LETTERS" 3) rfl), He.int_ok X Gn (c.fact 25 (f := .int "MOST_SIZE" 15) rfl), He.int_ok X Gn (c.fact 26 (f := .int "MOST_UNITS" 30) rfl), He.free_ok X Gn (c.fact 27 (f := .free "abs") rfl), He.free_ok X Gn (c.fact 28 (f := .free "all") rfl), He.free_ok X Gn (c.fact 29 (f := .free "any") rfl), He.free_ok X Gn (c.fact 30 (f := .free "bool") rfl), He.free_ok X Gn (c.fact 31 (f := .free "int") rfl), He.free_ok X Gn (c.fact 32 (f := .free "isinstance") rfl), He.free_ok X Gn (c.fact 33 (f := .free "len") rfl), He.free_ok X Gn (c.fact 34 (f := .free "list") rfl), He.free_ok X Gn (c.fact 35 (f := .free "max") rfl), He.free_ok X Gn (c.fact 36 (f := .free "min") rfl), He.free_ok X Gn (c.fact 37 (f := .free "range") rfl), He.free_ok X Gn (c.fact 38 (f := .free "set") rfl), He.free_ok X Gn (c.fact 39 (f := .free "str") rfl), He.free_ok X Gn (c.fact 40 (f := .free "tuple") rfl), He.free_ok X Gn (c.fact 41 (f := .free "zip") rfl)⟩
  have E_NoCase : ExcP K mg "NoCase" := excP_of X Gn (c.fact 42 (f := .glo "NoCase") rfl) (c.fact 43 (f := .exc "NoCase") rfl)
  have M_NoCase : ExmF K mg "NoCase" := exmF_of X Gn (c.more_ 0 (e := fun K => exmAll K "NoCase") rfl)
  have A_exc : ExcAllF K := excAllF_of (c.more_ 1 (e := fun K => excAllB K) rfl)
  have I_CastError : IsxF K mg "CastError" := isxF_of X Gn (c.more_ 2 (e := fun K => isxB K "CastError") rfl)
  have I_Loose : IsxF K mg "Loose" := isxF_of X Gn (c.more_ 3 (e := fun K => isxB K "Loose") rfl)
  have I_NoEnd : IsxF K mg "NoEnd" := isxF_of X Gn (c.more_ 4 (e := fun K => isxB K "NoEnd") rfl)
  have I_NoHoles : IsxF K mg "NoHoles" := isxF_of X Gn (c.more_ 5 (e := fun K => isxB K "NoHoles") rfl)
  have I_NoLayout : IsxF K mg "NoLayout" := isxF_of X Gn (c.more_ 6 (e := fun K => isxB K "NoLayout") rfl)
  have I_NoLine : IsxF K mg "NoLine" := isxF_of X Gn (c.more_ 7 (e := fun K => isxB K "NoLine") rfl)
  have I_NoLines : IsxF K mg "NoLines" := isxF_of X Gn (c.more_ 8 (e := fun K => isxB K "NoLines") rfl)
  have I_NoMold : IsxF K mg "NoMold" := isxF_of X Gn (c.more_ 9 (e := fun K => isxB K "NoMold") rfl)
  have I_NoName : IsxF K mg "NoName" := isxF_of X Gn (c.more_ 10 (e := fun K => isxB K "NoName") rfl)
  have I_NoPaper : IsxF K mg "NoPaper" := isxF_of X Gn (c.more_ 11 (e := fun K => isxB K "NoPaper") rfl)
  have I_NoRow : IsxF K mg "NoRow" := isxF_of X Gn (c.more_ 12 (e := fun K => isxB K "NoRow") rfl)
  have I_NoStep : IsxF K mg "NoStep" := isxF_of X Gn (c.more_ 13 (e := fun K => isxB K "NoStep") rfl)
  have I_NoText : IsxF K mg "NoText" := isxF_of X Gn (c.more_ 14 (e := fun K => isxB K "NoText") rfl)
  have I_Tight : IsxF K mg "Tight" := isxF_of X Gn (c.more_ 15 (e := fun K => isxB K "Tight") rfl)
  have I_TooMany : IsxF K mg "TooMany" := isxF_of X Gn (c.more_ 16 (e := fun K => isxB K "TooMany") rfl)
  have I_ValueError : IsxF K mg "ValueError" := isxF_val (He.free_ok X Gn (c.fact 44 (f := .free "ValueError") rfl)) (c.more_ 17 (e := fun K => isxV K) rfl)
  obtain ⟨fd_is_whole, D0_is_whole⟩ := c.def_ 0 (d := dd_is_whole) rfl
  have D_is_whole : FunD K "is_whole" "is_whole" (defArgs s_is_whole) (defBody s_is_whole) (defScope s_is_whole) [] [] (He.ga K "is_whole") fd_is_whole := D0_is_whole
  have F_is_whole : ∀ cn base, FnD P w K mg base cn 1 "is_whole" 1 sem_is_whole := fun cn base => fn_defD D_is_whole esc_is_whole fs_is_whole (He.glo_ok X Gn (c.fact 0 (f := .glo "is_whole") rfl)) (fun _ _ _ _ _ _ us hl => match us, hl with | [_], _ => rfl) (by decide) rfl (ok_is_whole Wf  )
  obtain ⟨fd_is_from, D0_is_from⟩ := c.def_ 1 (d := dd_is_from) rfl
  have D_is_from : FunD K "is_from" "is_from" (defArgs s_is_from) (defBody s_is_from) (defScope s_is_from) [] [] (He.ga K "is_from") fd_is_from := D0_is_from
  have F_is_from : ∀ cn base, FnD P w K mg base cn 2 "is_from" 3 sem_is_from := fun cn base => fn_defD D_is_from esc_is_from fs_is_from (He.glo_ok X Gn (c.fact 1 (f := .glo "is_from") rfl)) (fun _ _ _ _ _ _ us hl => match us, hl with | [_, _, _], _ => rfl) (by decide) rfl (ok_is_from Wf (fun cn => F_is_whole cn base) )
  obtain ⟨fd_is_name, D0_is_name⟩ := c.def_ 2 (d := dd_is_name) rfl
  have D_is_name : FunD K "is_name" "is_name" (defArgs s_is_name) (defBody s_is_name) (defScope s_is_name) [] [] (He.ga K "is_name") fd_is_name := D0_is_name
  have F_is_name : ∀ cn base, FnD P w K mg base cn 1 "is_name" 1 sem_is_name := fun cn base => fn_defD D_is_name esc_is_name fs_is_name (He.glo_ok X Gn (c.fact 2 (f := .glo "is_name") rfl)) (fun _ _ _ _ _ _ us hl => match us, hl with | [_], _ => rfl) (by decide) rfl (ok_is_name Wf  )
  obtain ⟨fd_is_cell, D0_is_cell⟩ := c.def_ 3 (d := dd_is_cell) rfl
  have D_is_cell : FunD K "is_cell" "is_cell" (defArgs s_is_cell) (defBody s_is_cell) (defScope s_is_cell) [] [] (He.ga K "is_cell") fd_is_cell := D0_is_cell
  have F_is_cell : ∀ cn base, FnD P w K mg base cn 3 "is_cell" 1 sem_is_cell := fun cn base => fn_defD D_is_cell esc_is_cell fs_is_cell (He.glo_ok X Gn (c.fact 3 (f := .glo "is_cell") rfl)) (fun _ _ _ _ _ _ us hl => match us, hl with | [_], _ => rfl) (by decide) rfl (ok_is_cell Wf (fun cn => F_is_from cn base) (fun cn => F_is_name cn base) )
  obtain ⟨fd_is_shape, D0_is_shape⟩ := c.def_ 4 (d := dd_is_shape) rfl
  have D_is_shape : FunD K "is_shape" "is_shape" (defArgs s_is_shape) (defBody s_is_shape) (defScope s_is_shape) [] [] (He.ga K "is_shape") fd_is_shape := D0_is_shape
  have F_is_shape : ∀ cn base, FnD P w K mg base cn 1 "is_shape" 1 sem_is_shape := fun cn base => fn_defD D_is_shape esc_is_shape fs_is_shape (He.glo_ok X Gn (c.fact 4 (f := .glo "is_shape") rfl)) (fun _ _ _ _ _ _ us hl => match us, hl with | [_], _ => rfl) (by decide) rfl (ok_is_shape Wf  )
  obtain ⟨fd_is_case, D0_is_case⟩ := c.def_ 5 (d := dd_is_case) rfl
  have D_is_case : FunD K "is_case" "is_case" (defArgs s_is_case) (defBody s_is_case) (defScope s_is_case) [] [] (He.ga K "is_case") fd_is_case := D0_is_case
  have F_is_case : ∀ cn base, FnD P w K mg base cn 4 "is_case" 1 sem_is_case := fun cn base => fn_defD D_is_case esc_is_case fs_is_case (He.glo_ok X Gn (c.fact 5 (f := .glo "is_case") rfl)) (fun _ _ _ _ _ _ us hl => match us, hl with | [_], _ => rfl) (by decide) rfl (ok_is_case Wf (fun cn => F_is_cell cn base) (fun cn => F_is_from cn base) (fun cn => F_is_shape cn base) )
  obtain ⟨fd_vet_case, D0_vet_case⟩ := c.def_ 6 (d := dd_vet_case) rfl
  have D_vet_case : FunD K "vet_case" "vet_case" (defArgs s_vet_case) (defBody s_vet_case) (defScope s_vet_case) [] [] (He.ga K "vet_case") fd_vet_case := D0_vet_case
  have F_vet_case : ∀ cn base, FnD P w K mg base cn 5 "vet_case" 1 sem_vet_case := fun cn base => fn_defD D_vet_case esc_vet_case fs_vet_case (He.glo_ok X Gn (c.fact 6 (f := .glo "vet_case") rfl)) (fun _ _ _ _ _ _ us hl => match us, hl with | [_], _ => rfl) (by decide) rfl (ok_vet_case Wf (fun cn => F_is_case cn base) E_NoCase)
  obtain ⟨fd_law_cell, D0_law_cell⟩ := c.def_ 7 (d := dd_law_cell) rfl
  have D_law_cell : FunD K "_law_cell" "_law_cell" (defArgs s_law_cell) (defBody s_law_cell) (defScope s_law_cell) [] [] (He.ga K "_law_cell") fd_law_cell := D0_law_cell
  have F_law_cell : ∀ cn base, FnD P w K mg base cn 1 "_law_cell" 2 sem_law_cell := fun cn base => fn_defD D_law_cell esc_law_cell fs_law_cell (He.glo_ok X Gn (c.fact 7 (f := .glo "_law_cell") rfl)) (fun _ _ _ _ _ _ us hl => match us, hl with | [_, _], _ => rfl) (by decide) rfl (ok_law_cell Wf  )
  obtain ⟨fd_law_bag, D0_law_bag⟩ := c.def_ 8 (d := dd_law_bag) rfl
  have D_law_bag : FunD K "_law_bag" "_law_bag" (defArgs s_law_bag) (defBody s_law_bag) (defScope s_law_bag) [] [] (He.ga K "_law_bag") fd_law_bag := D0_law_bag
  have F_law_bag : ∀ cn base, FnD P w K mg base cn 2 "_law_bag" 2 sem_law_bag := fun cn base => fn_defD D_law_bag esc_law_bag fs_law_bag (He.glo_ok X Gn (c.fact 8 (f := .glo "_law_bag") rfl)) (fun _ _ _ _ _ _ us hl => match us, hl with | [_, _], _ => rfl) (by decide) rfl (ok_law_bag Wf (fun cn => F_law_cell cn base) )
  obtain ⟨fd_law_take, D0_law_take⟩ := c.def_ 9 (d := dd_law_take) rfl
  have D_law_take : FunD K "_law_take" "_law_take" (defArgs s_law_take) (defBody s_law_take) (defScope s_law_take) [] [] (He.ga K "_law_take") fd_law_take := D0_law_take
  have F_law_take : ∀ cn base, FnD P w K mg base cn 1 "_law_take" 2 sem_law_take := fun cn base => fn_defD D_law_take esc_law_take fs_law_take (He.glo_ok X Gn (c.fact 9 (f := .glo "_law_take") rfl)) (fun _ _ _ _ _ _ us hl => match us, hl with | [_, _], _ => rfl) (by decide) rfl (ok_law_take Wf  )
  obtain ⟨fd_law_name, D0_law_name⟩ := c.def_ 10 (d := dd_law_name) rfl
  have D_law_name : FunD K "_law_name" "_law_name" (defArgs s_law_name) (defBody s_law_name) (defScope s_law_name) [] [] (He.ga K "_law_name") fd_law_name := D0_law_name
  have F_law_name : ∀ cn base, FnD P w K mg base cn 2 "_law_name" 2 sem_law_name := fun cn base => fn_defD D_law_name esc_law_name fs_law_name (He.glo_ok X Gn (c.fact 10 (f := .glo "_law_name") rfl)) (fun _ _ _ _ _ _ us hl => match us, hl with | [_, _], _ => rfl) (by decide) rfl (ok_law_name Wf (fun cn => F_law_take cn base) )
  obtain ⟨fd_law_case, D0_law_case⟩ := c.def_ 11 (d := dd_law_case) rfl
  have D_law_case : FunD K "_law_case" "_law_case" (defArgs s_law_case) (defBody s_law_case) (defScope s_law_case) [] [] (He.ga K "_law_case") fd_law_case := D0_law_case
  have F_law_case : ∀ cn base, FnD P w K mg base cn 3 "_law_case" 2 sem_law_case := fun cn base => fn_defD D_law_case esc_law_case fs_law_case (He.glo_ok X Gn (c.fact 11 (f := .glo "_law_case") rfl)) (fun _ _ _ _ _ _ us hl => match us, hl with | [_, _], _ => rfl) (by decide) rfl (ok_law_case Wf (fun cn => F_law_name cn base) (fun cn => F_law_take cn base) )
  obtain ⟨fd_law_whole, D0_law_whole⟩ := c.def_ 12 (d := dd_law_whole) rfl
  have D_law_whole : FunD K "_law_whole" "_law_whole" (defArgs s_law_whole) (defBody s_law_whole) (defScope s_law_whole) [] [] (He.ga K "_law_whole") fd_law_whole := D0_law_whole
  have F_law_whole : ∀ cn base, FnD P w K mg base cn 1 "_law_whole" 3 sem_law_whole := fun cn base => fn_defD D_law_whole esc_law_whole fs_law_whole (He.glo_ok X Gn (c.fact 12 (f := .glo "_law_whole") rfl)) (fun _ _ _ _ _ _ us hl => match us, hl with | [_, _, _], _ => rfl) (by decide) rfl (ok_law_whole Wf  )
  obtain ⟨fd_law_is_name, D0_law_is_name⟩ := c.def_ 13 (d := dd_law_is_name) rfl
  have D_law_is_name : FunD K "_law_is_name" "_law_is_name" (defArgs s_law_is_name) (defBody s_law_is_name) (defScope s_law_is_name) [] [] (He.ga K "_law_is_name") fd_law_is_name := D0_law_is_name
  have F_law_is_name : ∀ cn base, FnD P w K mg base cn 1 "_law_is_name" 1 sem_law_is_name := fun cn base => fn_defD D_law_is_name esc_law_is_name fs_law_is_name (He.glo_ok X Gn (c.fact 13 (f := .glo "_law_is_name") rfl)) (fun _ _ _ _ _ _ us hl => match us, hl with | [_], _ => rfl) (by decide) rfl (ok_law_is_name Wf  )
  obtain ⟨fd_law_cell_good, D0_law_cell_good⟩ := c.def_ 14 (d := dd_law_cell_good) rfl
  have D_law_cell_good : FunD K "_law_cell_good" "_law_cell_good" (defArgs s_law_cell_good) (defBody s_law_cell_good) (defScope s_law_cell_good) [] [] (He.ga K "_law_cell_good") fd_law_cell_good := D0_law_cell_good
  have F_law_cell_good : ∀ cn base, FnD P w K mg base cn 2 "_law_cell_good" 2 sem_law_cell_good := fun cn base => fn_defD D_law_cell_good esc_law_cell_good fs_law_cell_good (He.glo_ok X Gn (c.fact 14 (f := .glo "_law_cell_good") rfl)) (fun _ _ _ _ _ _ us hl => match us, hl with | [_, _], _ => rfl) (by decide) rfl (ok_law_cell_good Wf (fun cn => F_law_is_name cn base) (fun cn => F_law_whole cn base) )
  obtain ⟨fd_law_is_case, D0_law_is_case⟩ := c.def_ 15 (d := dd_law_is_case) rfl
  have D_law_is_case : FunD K "_law_is_case" "_law_is_case" (defArgs s_law_is_case) (defBody s_law_is_case) (defScope s_law_is_case) [] [] (He.ga K "_law_is_case") fd_law_is_case := D0_law_is_case
  have F_law_is_case : ∀ cn base, FnD P w K mg base cn 3 "_law_is_case" 1 sem_law_is_case := fun cn base => fn_defD D_law_is_case esc_law_is_case fs_law_is_case (He.glo_ok X Gn (c.fact 15 (f := .glo "_law_is_case") rfl)) (fun _ _ _ _ _ _ us hl => match us, hl with | [_], _ => rfl) (by decide) rfl (ok_law_is_case Wf (fun cn => F_law_cell_good cn base) (fun cn => F_law_whole cn base) )
  obtain ⟨fd_law_vetted, D0_law_vetted⟩ := c.def_ 16 (d := dd_law_vetted) rfl
  have D_law_vetted : FunD K "_law_vetted" "_law_vetted" (defArgs s_law_vetted) (defBody s_law_vetted) (defScope s_law_vetted) [] [] (He.ga K "_law_vetted") fd_law_vetted := D0_law_vetted
  have F_law_vetted : ∀ cn base, FnD P w K mg base cn 6 "_law_vetted" 1 sem_law_vetted := fun cn base => fn_defD D_law_vetted esc_law_vetted fs_law_vetted (He.glo_ok X Gn (c.fact 16 (f := .glo "_law_vetted") rfl)) (fun _ _ _ _ _ _ us hl => match us, hl with | [_], _ => rfl) (by decide) rfl (ok_law_vetted Wf (fun cn => F_vet_case cn base) M_NoCase A_exc I_CastError I_Loose I_NoEnd I_NoHoles I_NoLayout I_NoLine I_NoLines I_NoMold I_NoName I_NoPaper I_NoRow I_NoStep I_NoText I_Tight I_TooMany I_ValueError)
  obtain ⟨fd_law_good, D0_law_good⟩ := c.def_ 17 (d := dd_law_good) rfl
  have D_law_good : FunD K "_law_good" "_law_good" (defArgs s_law_good) (defBody s_law_good) (defScope s_law_good) [] [] (He.ga K "_law_good") fd_law_good := D0_law_good
  have F_law_good : ∀ cn base, FnD P w K mg base cn 7 "_law_good" 1 sem_law_good := fun cn base => fn_defD D_law_good esc_law_good fs_law_good (He.glo_ok X Gn (c.fact 17 (f := .glo "_law_good") rfl)) (fun _ _ _ _ _ _ us hl => match us, hl with | [_], _ => rfl) (by decide) rfl (ok_law_good Wf (fun cn => F_law_is_case cn base) (fun cn => F_law_vetted cn base) (fun cn => F_is_case cn base) )
  obtain ⟨fd_law_odd_cell, D0_law_odd_cell⟩ := c.def_ 18 (d := dd_law_odd_cell) rfl
  have D_law_odd_cell : FunD K "_law_odd_cell" "_law_odd_cell" (defArgs s_law_odd_cell) (defBody s_law_odd_cell) (defScope s_law_odd_cell) [] [] (He.ga K "_law_odd_cell") fd_law_odd_cell := D0_law_odd_cell
  have F_law_odd_cell : ∀ cn base, FnD P w K mg base cn 1 "_law_odd_cell" 2 sem_law_odd_cell := fun cn base => fn_defD D_law_odd_cell esc_law_odd_cell fs_law_odd_cell (He.glo_ok X Gn (c.fact 18 (f := .glo "_law_odd_cell") rfl)) (fun _ _ _ _ _ _ us hl => match us, hl with | [_, _], _ => rfl) (by decide) rfl (ok_law_odd_cell Wf  )
  obtain ⟨fd_law_spoilt, D0_law_spoilt⟩ := c.def_ 19 (d := dd_law_spoilt) rfl
  have D_law_spoilt : FunD K "_law_spoilt" "_law_spoilt" (defArgs s_law_spoilt) (defBody s_law_spoilt) (defScope s_law_spoilt) [] [] (He.ga K "_law_spoilt") fd_law_spoilt := D0_law_spoilt
  have F_law_spoilt : ∀ cn base, FnD P w K mg base cn 2 "_law_spoilt" 5 sem_law_spoilt := fun cn base => fn_defD D_law_spoilt esc_law_spoilt fs_law_spoilt (He.glo_ok X Gn (c.fact 19 (f := .glo "_law_spoilt") rfl)) (fun _ _ _ _ _ _ us hl => match us, hl with | [_, _, _, _, _], _ => rfl) (by decide) rfl (ok_law_spoilt Wf (fun cn => F_law_odd_cell cn base) )
  obtain ⟨fd_law, D0_law⟩ := c.def_ 20 (d := dd_law) rfl
  have D_law : FunD K "law" "law" (defArgs s_law) (defBody s_law) (defScope s_law) [] [] (He.ga K "law") fd_law := D0_law
  have e := hfa.symm.trans (He.glo_ok X Gn (c.fact 20 (f := .glo "law") rfl))
  cases e
  have b := FunD.bindsA (ps := ["_law_script"]) D_law (fun _ _ _ _ _ _ us hl => match us, hl with | [_], _ => rfl)
  exact ⟨fd_law, fun s v => b s [v] rfl, fun base => fn_defL D_law esc_law fs_law (by decide) rfl (ok_law Wf (fun cn => F_law_bag cn base) (fun cn => F_law_case cn base) (fun cn => F_law_good cn base) (fun cn => F_law_spoilt cn base) (fun cn => F_law_take cn base) (fun cn => F_is_case cn base) )⟩
end BV
open PySem PySem.W PySem.Calls PyProof.Rows
set_option maxHeartbeats 0 in
theorem PySem.Challenge.cw_ribboncast_k06_cases_judged_holds : PySem.Challenge.rw_ribboncast_k06_cases_judged.Holds := by
  w_on; o_law
  refine HandSHeadRun.head_any (r := OpenLaw.row PySem.Challenge.rw_ribboncast_k06_cases_judged) (q := view (OpenLaw.row PySem.Challenge.rw_ribboncast_k06_cases_judged).prog [46]) (H := BV.hk) (ob := BV.ob) (M := 9000) (loose := BV.nmL) (d := HandSHeadRun.topDef (OpenLaw.row PySem.Challenge.rw_ribboncast_k06_cases_judged).prog 46) (kwd := []) BV.ob_eq
    (by kernel_rfl) (fun s => by kernel_rfl) BV.run (by kernel_rfl) (by kernel_rfl) (by kernel_rfl) (by rfl) (by first | assumption | decide +kernel) (by decide +kernel) ⟨rfl, rfl, rfl, rfl, rfl, by decide +kernel⟩ ?hw ?hc
  case hw => w_witness2
  case hc =>
    refine BV.walk_ofCX (l := PySem.Challenge.rw_ribboncast_k06_cases_judged) (n := 63) (k := 8) (x := "_law_script") (CX := BV.CXg false (PySem.Challenge.rw_ribboncast_k06_cases_judged).prog) rfl (by decide) (by kernel_rfl) ⟨rfl, by decide, by decide⟩ ?F (BV.cx_no (cn := false))
    intro w mg fa h Y G hmg0
    obtain ⟨K, KX, c⟩ := Y
    have hmg : mg ("law" : PySem.Str) = some (.ref fa) := by
      have e : (HandSHeadRun.topDef (OpenLaw.row PySem.Challenge.rw_ribboncast_k06_cases_judged).prog 46).name = ("law" : PySem.Str) := by kernel_rfl
      rw [← e]
      exact hmg0
    obtain ⟨fd, hb, hF⟩ := BV.facts (P := (PySem.Challenge.rw_ribboncast_k06_cases_judged).prog) (w := w) KX G hmg c
    exact ⟨K, fd, _, KX, hb, fun H a ns hl _ hS => BV.law_sp hl hS (BV.law_true ns hl), fun base _ _ => hF base⟩
